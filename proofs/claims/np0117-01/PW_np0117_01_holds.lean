import PyProof.Rows.All
import PyProof.SliceList
import PyProof.Cells
import PyProof.ToksMono
import PyProof.Walks
import PyProof.ConsumeWalk
import PyProof.CompFree
import PyProof.DictTable
import PyProof.EnumStmt
import PyProof.EnumMake
import PyProof.ExcBaseAll.Exception
import PyProof.ExcInit
import PyProof.WalksMore
import PyProof.InstStoreFacts
import PyProof.ListCopy
import PyProof.NsDelKeeps
import PyProof.Rows.RuleN_abs
import PyProof.RulesFinally
import PyProof.SumWalkG
import PyProof.Rows.SumAny
import PyProof.Rows.Range3
import OpenK.KMake
import Open.Pieces
import KE.IntBitsLaws
import KE.KItem
import KE.KNest
import KE.KIsAll
import KE.KStateDown
import OpenK.AllK
import PySem.Challenge.RW_np0117_01
set_option maxRecDepth 1000000
set_option maxHeartbeats 0
set_option linter.all false
set_option Elab.async false
set_option genSizeOf false
set_option genSizeOfSpec false
set_option genInjectivity false
set_option bootstrap.genMatcherCode false
set_option tactic.hygienic false
section
open PySem renaming Expr→PX,Str→PS
open PySem
namespace Mine
inductive C where
 | none | bool (b:Bool) | int (z:Int) | num (i c:Nat) | upto (k:Nat) | str (s:Nat) | sym (s:Nat) | symnum (s:Nat)
 | fn (k:Nat) | cls (c:Nat) | blt (b:Nat) | clo (notes:Nat) | rng (a b s:Int) | scr | unk
inductive V where
 | a (c:C) | ref (n:Nat) | obj (c:Nat) (fs:List V) | tup (vs:List V) | met (self:V) (f:Nat) | exc (c:Nat) (fs:List V)
inductive FL where
 | nil | cons (k:Nat) (v:V) (r:FL)
inductive O where
 | inst (c:Nat) (fs:FL) | lst (p:Nat) (vs:List V) | dic (k:Nat) (fs:FL) | deck | obar | sdic (x y:V) | gone | ntab (d:Nat)
inductive HT where
 | nil | node (o:O) (l r:HT)
structure CD where
 kind:Nat
 fields:List Nat
 mths:List (Nat × Nat)
 anc:List Nat
 flds:List Nat
inductive TR(α:Type) where
 | nil | node (o:Option α) (l r:TR α)
noncomputable section
noncomputable def forceN(n:Nat)(k:Nat→Bool):Bool:=@Nat.rec (fun _=>Bool) false (fun m _=>k m) (Nat.add n (nat_lit 1))
noncomputable def FL.look(x:Nat)(l:FL):Option V:=@FL.rec (fun _=>Option V) none (fun k v _ ih=>@Bool.rec (fun _=>Option V) ih (some v) (Nat.beq k x)) l
noncomputable def FL.setK(x:Nat)(v:V)(l:FL):(FL→Bool)→Bool:=@FL.rec (fun _=>(FL→Bool)→Bool) (fun k=>k (.cons x v .nil)) (fun a w r ih k=>@Bool.rec (fun _=>Bool) (ih fun r'=>k (.cons a w r')) (k (.cons a v r)) (Nat.beq a x)) l
noncomputable def FL.eraseK(x:Nat)(l:FL):(FL→Bool)→Bool:=@FL.rec (fun _=>(FL→Bool)→Bool) (fun k=>k .nil) (fun a w r ih k=>@Bool.rec (fun _=>Bool) (ih fun r'=>k (.cons a w r')) (ih k) (Nat.beq a x)) l
noncomputable def HT.get(t:HT):Nat→O:=@HT.rec (fun _=>Nat→O) (fun _=>.gone) (fun v _ _ ihl ihr i=>@Bool.rec (fun _=>O) (@Bool.rec (fun _=>O) (ihr (Nat.sub (Nat.div i (nat_lit 2)) (nat_lit 1))) (ihl (Nat.div i (nat_lit 2))) (Nat.beq (Nat.mod i (nat_lit 2)) (nat_lit 1))) v (Nat.beq i (nat_lit 0))) t
noncomputable def HT.single(o:O)(f:Nat):Nat→(HT→Bool)→Bool:=@Nat.rec (fun _=>Nat→(HT→Bool)→Bool) (fun _ _=>false) (fun _ ih i k=>@Bool.rec (fun _=>Bool) (@Bool.rec (fun _=>Bool) (ih (Nat.sub (Nat.div i (nat_lit 2)) (nat_lit 1)) fun r=>k (.node .gone .nil r)) (ih (Nat.div i (nat_lit 2)) fun l=>k (.node .gone l .nil)) (Nat.beq (Nat.mod i (nat_lit 2)) (nat_lit 1))) (k (.node o .nil .nil)) (Nat.beq i (nat_lit 0))) f
noncomputable def HT.setK(o:O)(t:HT):Nat→(HT→Bool)→Bool:=@HT.rec (fun _=>Nat→(HT→Bool)→Bool) (fun i k=>HT.single o (nat_lit 24) i k) (fun v l r ihl ihr i k=>@Bool.rec (fun _=>Bool) (@Bool.rec (fun _=>Bool) (ihr (Nat.sub (Nat.div i (nat_lit 2)) (nat_lit 1)) fun r=>k (.node v l r)) (ihl (Nat.div i (nat_lit 2)) fun l=>k (.node v l r)) (Nat.beq (Nat.mod i (nat_lit 2)) (nat_lit 1))) (k (.node o l r)) (Nat.beq i (nat_lit 0))) t
noncomputable def TR.get{α:Type}(t:TR α):Nat→Option α:=@TR.rec α (fun _=>Nat→Option α) (fun _=>none) (fun v _ _ ihl ihr i=>@Bool.rec (fun _=>Option α) (@Bool.rec (fun _=>Option α) (ihr (Nat.sub (Nat.div i (nat_lit 2)) (nat_lit 1))) (ihl (Nat.div i (nat_lit 2))) (Nat.beq (Nat.mod i (nat_lit 2)) (nat_lit 1))) v (Nat.beq i (nat_lit 0))) t
noncomputable abbrev VL:=List V
noncomputable def VL.len(l:VL):Nat:=@List.rec V (fun _=>Nat) (nat_lit 0) (fun _ _ ih=>Nat.add ih (nat_lit 1)) l
noncomputable def VL.at(l:VL):Nat→Option V:=@List.rec V (fun _=>Nat→Option V) (fun _=>none) (fun v _ ih i=>@Bool.rec (fun _=>Option V) (ih (Nat.sub i (nat_lit 1))) (some v) (Nat.beq i (nat_lit 0))) l
noncomputable def VL.appK(l:VL):VL→(VL→Bool)→Bool:=@List.rec V (fun _=>VL→(VL→Bool)→Bool) (fun w k=>k w) (fun v _ ih w k=>ih w fun r'=>k (v :: r')) l
noncomputable def VL.dropK(l:VL):Nat→(VL→Bool)→Bool:=@List.rec V (fun _=>Nat→(VL→Bool)→Bool) (fun _ k=>k []) (fun v r ih n k=>@Bool.rec (fun _=>Bool) (ih (Nat.sub n (nat_lit 1)) k) (k (v :: r)) (Nat.beq n (nat_lit 0))) l
noncomputable def VL.takeK(l:VL):Nat→(VL→Bool)→Bool:=@List.rec V (fun _=>Nat→(VL→Bool)→Bool) (fun _ k=>k []) (fun v _ ih n k=>@Bool.rec (fun _=>Bool) (ih (Nat.sub n (nat_lit 1)) fun r'=>k (v :: r')) (k []) (Nat.beq n (nat_lit 0))) l
noncomputable def VL.popK(l:VL):(V→VL→Bool)→Bool:=@List.rec V (fun _=>(V→VL→Bool)→Bool) (fun _=>false) (fun v r ih k=>@List.rec V (fun _=>Bool) (k v []) (fun _ _ _=>ih fun x r'=>k x (v :: r')) r) l
noncomputable def assoc(l:List (Nat × Nat))(x:Nat):Option Nat:=@List.rec (Nat × Nat) (fun _=>Option Nat) none (fun p _ ih=>@Bool.rec (fun _=>Option Nat) ih (some p.2) (Nat.beq p.1 x)) l
noncomputable def memN(l:List Nat)(x:Nat):Bool:=@List.rec Nat (fun _=>Bool) false (fun y _ ih=>@Bool.rec (fun _=>Bool) ih true (Nat.beq y x)) l
noncomputable def V.sz(v:V):Nat:=@V.rec (fun _=>Nat) (fun _=>Nat) (fun c=>match c with | .none | .bool _ | .int _ | .num _ _ | .upto _ | .str _ | .sym _ | .symnum _=>1 | _=>1000000) (fun _=>1) (fun _ _ ih=>Nat.add ih 1) (fun _ ih=>Nat.add ih 1) (fun _ _ _=>1000000) (fun _ _ _=>1000000) 0 (fun _ _ a b=>Nat.add a b) v
noncomputable def VL.sz(l:VL):Nat:=@List.rec V (fun _=>Nat) 0 (fun v _ ih=>Nat.add v.sz ih) l
noncomputable def zipP(ps:List Nat):VL→VL→(FL→Bool)→Bool:=@List.rec Nat (fun _=>VL→VL→(FL→Bool)→Bool)
 (fun vs _ k=>@List.rec V (fun _=>Bool) (k .nil) (fun _ _ _=>false) vs)
 (fun x xs ih vs ds k=>@List.rec V (fun _=>Bool)
  (VL.at (ds.drop (ds.length - (xs.length + 1))) 0 |>.rec false fun d=>@Bool.rec (fun _=>Bool) false (ih [] ds fun l=>k (.cons x d l)) (Nat.ble (xs.length + 1) ds.length))
  (fun v r _=>ih r ds fun l=>k (.cons x v l)) vs) ps
noncomputable def optK{α:Type}(o:Option α)(k:α→Bool):Bool:=@Option.rec α (fun _=>Bool) false k o
noncomputable abbrev KV:=V→HT→Nat→Bool
structure KS where
 nx:FL→HT→Nat→Bool
 rt:V→HT→Nat→Bool
 bk:FL→HT→Nat→Bool
 xc:V→FL→HT→Nat→Bool
structure RR where
 cl:V→VL→HT→Nat→KV→KV→Bool
 clH:V→VL→HT→Nat→KV→KV→Bool
 hd:Bool
noncomputable def RR.hand(r:RR):RR:=⟨r.clH,r.clH,true⟩
noncomputable abbrev EM:=RR→FL→HT→Nat→KV→KV→Bool
noncomputable abbrev EMs:=RR→FL→HT→Nat→(VL→HT→Nat→Bool)→KV→Bool
noncomputable abbrev TM:=RR→FL→HT→Nat→(Bool→HT→Nat→Bool)→KV→Bool
noncomputable abbrev SM:=RR→FL→HT→Nat→KS→Bool
structure FD where
 name:Nat
 prms:List Nat
 dfl:VL
 body:SM
inductive It where
 | rng (a b s:Int) | lst (id j:Nat) | enuL (c id j:Nat) | enuV (c:Nat) (vs:VL)
end
end Mine
end
section
local macro_rules | `($n:num) => `(nat_lit $n)
open PySem
namespace Mine
noncomputable def nInit:Nat:=270
noncomputable def nAppend:Nat:=25
noncomputable def nPop:Nat:=94
noncomputable def nGet:Nat:=40
noncomputable def nName:Nat:=11
noncomputable def nNumber:Nat:=10
noncomputable def nIntern:Nat:=219
noncomputable def nRows:Nat:=89
noncomputable def nNames:Nat:=309
noncomputable def c0:CD:=⟨2,[3,4],[(270,1)],[0],[3,4]⟩
noncomputable def c2:CD:=⟨0,[],[],[2],[]⟩
noncomputable def c3:CD:=⟨1,[5,6],[(270,6)],[3],[5,6]⟩
noncomputable def c4:CD:=⟨1,[7,8],[(270,7)],[4],[7,8]⟩
noncomputable def c5:CD:=⟨1,[9],[(270,8)],[5],[9]⟩
noncomputable def c6:CD:=⟨1,[10,11,12,13,14],[(270,9)],[6],[10,11,12,13,14]⟩
noncomputable def c7:CD:=⟨0,[],[],[7],[]⟩
noncomputable def c8:CD:=⟨0,[],[],[8,7],[]⟩
noncomputable def c9:CD:=⟨1,[11,12,13,30],[(270,21),(126,23)],[9,8,7],[11,12,13,30]⟩
noncomputable def c10:CD:=⟨1,[11,12,13,30],[(270,24),(126,27)],[10,7],[11,12,13,30]⟩
noncomputable def c11:CD:=⟨0,[],[(270,30),(48,31),(221,33),(124,34)],[11],[38,39]⟩
noncomputable def c12:CD:=⟨1,[49,50,51],[(270,40),(68,41)],[12],[49,50,51]⟩
noncomputable def c13:CD:=⟨0,[],[(270,47),(82,48),(87,49)],[13],[74,75,76]⟩
noncomputable def c14:CD:=⟨0,[],[(270,54),(80,55)],[14],[78]⟩
noncomputable def c15:CD:=⟨1,[58,79,3,70],[(270,62)],[15],[58,79,3,70]⟩
noncomputable def c16:CD:=⟨0,[],[(270,65),(92,66),(73,67),(104,69)],[16],[88,89]⟩
noncomputable def c17:CD:=⟨2,[97,70],[(270,70)],[17],[97,70]⟩
noncomputable def c18:CD:=⟨0,[],[(142,72),(149,73)],[18],[]⟩
noncomputable def c19:CD:=⟨1,[99],[(270,74),(152,75),(142,72),(149,73)],[19,18],[99]⟩
noncomputable def c20:CD:=⟨1,[41,32],[(270,76),(152,77),(142,72),(149,73)],[20,18],[41,32]⟩
noncomputable def c21:CD:=⟨0,[],[(270,78),(152,79),(142,72),(149,73)],[21,18],[102,35,15,103]⟩
noncomputable def c22:CD:=⟨0,[],[(270,80),(152,81),(142,72),(149,73)],[22,18],[35,17]⟩
noncomputable def c23:CD:=⟨0,[],[(270,82),(152,83),(142,84),(149,73)],[23,18],[35,92,17]⟩
noncomputable def c24:CD:=⟨0,[],[(142,72),(149,73)],[24,18],[]⟩
noncomputable def c25:CD:=⟨0,[],[(270,88),(117,89),(129,90),(94,91),(105,92),(34,93),(118,94),(100,96),(120,97),(119,98),(48,100),(101,101),(136,102),(142,103),(147,104),(152,106),(156,107),(170,108),(225,109)],[25],[88,109,110,111,70,112,72]⟩
noncomputable def c26:CD:=⟨0,[],[(270,124),(152,125),(142,72),(149,73)],[26,18],[41,52,165,15,103]⟩
noncomputable def c27:CD:=⟨0,[],[(142,72),(149,73)],[27,18],[]⟩
noncomputable def c28:CD:=⟨0,[],[(142,72),(149,73)],[28,18],[]⟩
noncomputable def c29:CD:=⟨0,[],[(142,72),(149,73)],[29,18],[]⟩
noncomputable def c30:CD:=⟨0,[],[(142,72),(149,73)],[30,18],[]⟩
noncomputable def c31:CD:=⟨0,[],[(142,72),(149,73)],[31,18],[]⟩
noncomputable def c32:CD:=⟨0,[],[(142,72),(149,73)],[32,18],[]⟩
noncomputable def c33:CD:=⟨0,[],[(142,72),(149,73)],[33,18],[]⟩
noncomputable def c34:CD:=⟨0,[],[(142,72),(149,73)],[34,18],[]⟩
noncomputable def c35:CD:=⟨0,[],[(149,73)],[35,18],[]⟩
noncomputable def c36:CD:=⟨0,[],[(270,172),(152,173),(149,174),(142,175)],[36,18],[201,92,97]⟩
noncomputable def c37:CD:=⟨0,[],[(149,73)],[37,18],[]⟩
noncomputable def c38:CD:=⟨0,[],[(149,73)],[38,18],[]⟩
noncomputable def c39:CD:=⟨0,[],[(142,72),(149,73)],[39,18],[]⟩
noncomputable def c40:CD:=⟨3,[],[(270,190),(219,191)],[40],[89,309]⟩
noncomputable def c41:CD:=⟨0,[],[(270,199),(3,200),(79,201),(239,203)],[41],[211,123,81,215,217,33,218]⟩
noncomputable def clT:TR CD:=(.node (some c0) (.node none (.node (some c3) (.node (some c7) (.node (some c15) (.node (some c31) .nil .nil) .nil) (.node (some c23) (.node (some c39) .nil .nil) .nil)) (.node (some c11) (.node (some c19) (.node (some c35) .nil .nil) .nil) (.node (some c27) .nil .nil))) (.node (some c5) (.node (some c9) (.node (some c17) (.node (some c33) .nil .nil) .nil) (.node (some c25) (.node (some c41) .nil .nil) .nil)) (.node (some c13) (.node (some c21) (.node (some c37) .nil .nil) .nil) (.node (some c29) .nil .nil)))) (.node (some c2) (.node (some c4) (.node (some c8) (.node (some c16) (.node (some c32) .nil .nil) .nil) (.node (some c24) (.node (some c40) .nil .nil) .nil)) (.node (some c12) (.node (some c20) (.node (some c36) .nil .nil) .nil) (.node (some c28) .nil .nil))) (.node (some c6) (.node (some c10) (.node (some c18) (.node (some c34) .nil .nil) .nil) (.node (some c26) .nil .nil)) (.node (some c14) (.node (some c22) (.node (some c38) .nil .nil) .nil) (.node (some c30) .nil .nil)))))
noncomputable def fsT:TR Nat:=(.node (some 271) (.node (some 1) (.node (some 272) (.node (some 274) (.node (some 277) (.node (some 274) (.node (some 287) (.node (some 291) (.node (some 307) .nil .nil) .nil) (.node (some 289) .nil .nil)) (.node (some 300) (.node (some 271) .nil .nil) (.node (some 307) .nil .nil))) (.node (some 274) (.node (some 289) (.node (some 288) .nil .nil) (.node (some 274) .nil .nil)) (.node (some 277) (.node (some 276) .nil .nil) (.node (some 278) .nil .nil)))) (.node (some 272) (.node (some 278) (.node (some 296) (.node (some 275) (.node (some 273) .nil .nil) .nil) (.node (some 275) .nil .nil)) (.node (some 282) (.node (some 272) .nil .nil) (.node (some 271) .nil .nil))) (.node (some 290) (.node (some 272) (.node (some 292) .nil .nil) (.node (some 291) .nil .nil)) (.node (some 275) (.node (some 285) .nil .nil) (.node (some 291) .nil .nil))))) (.node (some 271) (.node (some 275) (.node (some 277) (.node (some 275) (.node (some 303) (.node (some 284) .nil .nil) .nil) (.node (some 272) .nil .nil)) (.node (some 277) (.node (some 305) .nil .nil) (.node (some 307) .nil .nil))) (.node (some 279) (.node (some 291) (.node (some 1) .nil .nil) (.node (some 289) .nil .nil)) (.node (some 296) (.node (some 306) .nil .nil) (.node (some 274) .nil .nil)))) (.node (some 283) (.node (some 272) (.node (some 281) (.node (some 291) (.node (some 272) .nil .nil) .nil) (.node (some 280) .nil .nil)) (.node (some 289) (.node (some 277) .nil .nil) (.node (some 235) .nil .nil))) (.node (some 292) (.node (some 291) (.node (some 276) .nil .nil) (.node (some 282) .nil .nil)) (.node (some 274) (.node (some 274) .nil .nil) (.node (some 274) .nil .nil)))))) (.node (some 274) (.node (some 1) (.node (some 278) (.node (some 276) (.node (some 295) (.node (some 278) (.node (some 273) .nil .nil) .nil) (.node (some 285) .nil .nil)) (.node (some 1) (.node (some 297) .nil .nil) (.node (some 274) .nil .nil))) (.node (some 271) (.node (some 296) (.node (some 305) .nil .nil) (.node (some 282) .nil .nil)) (.node (some 298) (.node (some 280) .nil .nil) (.node (some 291) .nil .nil)))) (.node (some 281) (.node (some 277) (.node (some 291) (.node (some 282) (.node (some 307) .nil .nil) .nil) (.node (some 291) .nil .nil)) (.node (some 273) (.node (some 281) .nil .nil) (.node (some 306) .nil .nil))) (.node (some 291) (.node (some 279) (.node (some 295) .nil .nil) (.node (some 274) .nil .nil)) (.node (some 285) (.node (some 300) .nil .nil) (.node (some 307) .nil .nil))))) (.node (some 276) (.node (some 281) (.node (some 282) (.node (some 285) (.node (some 288) (.node (some 1) .nil .nil) .nil) (.node (some 272) .nil .nil)) (.node (some 281) (.node (some 279) .nil .nil) (.node (some 276) .nil .nil))) (.node (some 282) (.node (some 287) (.node (some 285) .nil .nil) (.node (some 280) .nil .nil)) (.node (some 1) (.node (some 282) .nil .nil) (.node (some 307) .nil .nil)))) (.node (some 284) (.node (some 284) (.node (some 297) (.node (some 298) (.node (some 274) .nil .nil) .nil) (.node (some 300) .nil .nil)) (.node (some 275) (.node (some 276) .nil .nil) (.node (some 301) .nil .nil))) (.node (some 294) (.node (some 279) (.node (some 288) .nil .nil) (.node (some 272) .nil .nil)) (.node (some 288) (.node (some 281) .nil .nil) (.node (some 285) .nil .nil))))))) (.node (some 272) (.node (some 273) (.node (some 272) (.node (some 1) (.node (some 281) (.node (some 278) (.node (some 276) (.node (some 272) .nil .nil) .nil) (.node (some 285) .nil .nil)) (.node (some 300) (.node (some 274) .nil .nil) (.node (some 285) .nil .nil))) (.node (some 277) (.node (some 282) (.node (some 272) .nil .nil) (.node (some 274) .nil .nil)) (.node (some 272) (.node (some 276) .nil .nil) (.node (some 274) .nil .nil)))) (.node (some 282) (.node (some 286) (.node (some 272) (.node (some 295) (.node (some 1) .nil .nil) .nil) (.node (some 275) .nil .nil)) (.node (some 300) (.node (some 277) .nil .nil) (.node (some 271) .nil .nil))) (.node (some 282) (.node (some 285) (.node (some 272) .nil .nil) (.node (some 287) .nil .nil)) (.node (some 277) (.node (some 285) .nil .nil) (.node (some 307) .nil .nil))))) (.node (some 275) (.node (some 280) (.node (some 36) (.node (some 1) (.node (some 296) (.node (some 307) .nil .nil) .nil) (.node (some 272) .nil .nil)) (.node (some 275) (.node (some 272) .nil .nil) (.node (some 273) .nil .nil))) (.node (some 282) (.node (some 298) (.node (some 281) .nil .nil) (.node (some 292) .nil .nil)) (.node (some 296) (.node (some 278) .nil .nil) (.node (some 279) .nil .nil)))) (.node (some 276) (.node (some 1) (.node (some 278) (.node (some 279) (.node (some 275) .nil .nil) .nil) (.node (some 274) .nil .nil)) (.node (some 282) (.node (some 276) .nil .nil) (.node (some 236) .nil .nil))) (.node (some 293) (.node (some 273) (.node (some 279) .nil .nil) (.node (some 275) .nil .nil)) (.node (some 282) (.node (some 281) .nil .nil) (.node (some 275) .nil .nil)))))) (.node (some 274) (.node (some 271) (.node (some 279) (.node (some 279) (.node (some 1) (.node (some 302) (.node (some 308) .nil .nil) .nil) (.node (some 278) .nil .nil)) (.node (some 275) (.node (some 275) .nil .nil) (.node (some 271) .nil .nil))) (.node (some 289) (.node (some 273) (.node (some 305) .nil .nil) (.node (some 282) .nil .nil)) (.node (some 277) (.node (some 288) .nil .nil) (.node (some 295) .nil .nil)))) (.node (some 272) (.node (some 287) (.node (some 273) (.node (some 278) (.node (some 307) .nil .nil) .nil) (.node (some 282) .nil .nil)) (.node (some 289) (.node (some 295) .nil .nil) (.node (some 271) .nil .nil))) (.node (some 272) (.node (some 282) (.node (some 1) .nil .nil) (.node (some 275) .nil .nil)) (.node (some 275) (.node (some 300) .nil .nil) (.node (some 272) .nil .nil))))) (.node (some 273) (.node (some 273) (.node (some 277) (.node (some 296) (.node (some 304) (.node (some 307) .nil .nil) .nil) (.node (some 275) .nil .nil)) (.node (some 301) (.node (some 284) .nil .nil) (.node (some 285) .nil .nil))) (.node (some 281) (.node (some 299) (.node (some 271) .nil .nil) (.node (some 297) .nil .nil)) (.node (some 296) (.node (some 282) .nil .nil) (.node (some 307) .nil .nil)))) (.node (some 285) (.node (some 288) (.node (some 296) (.node (some 275) (.node (some 307) .nil .nil) .nil) (.node (some 300) .nil .nil)) (.node (some 277) (.node (some 276) .nil .nil) (.node (some 271) .nil .nil))) (.node (some 293) (.node (some 278) (.node (some 280) .nil .nil) (.node (some 272) .nil .nil)) (.node (some 291) (.node (some 289) .nil .nil) (.node (some 307) .nil .nil))))))))
noncomputable def names:List String:=["nil","t","self","symbol","data","car","cdr","codes","spans","things","number","name","least","most","deed","found","tail","place","range","len","Cons","at","datum","slow","isinstance","append","split_list","NIL","many","MANY","work","count_fits","arguments","machine","refuse_count","forms",":","is_keyword","functions","plists","get","function","LispSignal","setting-constant","turn","MOST_LINKS","Symbol","cyclic-function-indirection","function_of","needed","optional","rest","items","items_of","all",".0","item","bad_function","sort","OPTIONAL","&optional","REST","&rest","LambdaList","pairs","enumerate","told","list_of","takes","wrong-number-of-arguments","value","values_for","stack","bind","defaults","automatic","permanent","VOID","values","own","is_local","variables","default_value","bound","Bound","LOCAL","DEFAULT","set_default","world","rows","is_constant","bind_variables","depth","row","pop","unbind","undo","tag","leaving","form","look","apply","head","is_waiting","unbind_to","done","one","other","int","limit","frames","floor","steps","BindingStack","frame","value_in","void-variable","tell","value_of","look_at_call","forms_of","wrong-type-argument","listp","cells","indirect_function","Special","begin","begins_with","macro","push","ExpandFrame","ArgumentsFrame","void-function","Subr","Function","lambda","enter","invalid-function","parts","bind_parameters","read_lambda_list","BodyFrame","leave","SIGNAL","signal","Thrown","THROW","throw","any","wants","no-catch","OutOfSteps","step","error","thrown","mark","run","StartFrame","CallFrame","need_list","consp","Vector","list","Text","sequencep","result","MapFrame","sequence_items","funcall","apply_to","eval","form_value","mapcar","mapc","macroexpand","macroexpand-1","macroexpand_once","Caller","SequenceFrame","quote","progn","if","if_form","when","when_form","unless","unless_form","cond","and","and_form","or","or_form","while","while_form","prog1","setq","setq-default","setq_default","let","let*","let_star","body","is_same","CatchFrame","catch","unwind-protect","unwind_protect","condition-case","condition_case","ignore-errors","ignore_errors","obarray","Obarray","Cells","Variables","bare","Locals","current","last_marker","intern","locals","set_function","some","_law_shown","world_own","call","numbers","_law_draw","deck","machine_own","way","notes","none","quote_own","note2","x","y","held","note","put_functions","choosing_forms","binding_forms","exit_forms","calling_functions","rows_own","_law_noter","_law_pair","back","_law_back","_law_function","sort_own","cut","last","word","_law_sequence","_law_deck","script","due_notes","World","Machine","_law_begun","turn_own","_law_form","due","told_own","_law_called","_law_ran","str","lam","caught","__init__","n","s","d","c","l","m","f","p","r","C","a","i","N","M","w","g","L","S","o",".","b","O","&","R","e","v","V","B","D","u","h","E","A","F","T","q","_","W","names"]
end Mine
end
section
open PySem renaming Expr→PX,Str→PS
open PySem
namespace Mine
noncomputable section
noncomputable def newO(o:O)(h:HT)(n:Nat)(k:KV):Bool:=h.setK o n fun h'=>forceN (Nat.add n (nat_lit 1)) fun n'=>k (.ref n) h' n'
noncomputable def setO(a:Nat)(o:O)(h:HT)(k:HT→Bool):Bool:=h.setK o a k
noncomputable def intK(z:Int)(k:Int→Bool):Bool:=@Int.rec (fun _=>Bool) (fun n=>forceN n fun n=>k (.ofNat n)) (fun n=>forceN n fun n=>k (.negSucc n)) z
noncomputable def natV(n:Nat):V:=.a (.int (.ofNat n))
noncomputable def asInt(v:V)(k:Int→Bool):Bool:=match v with | .a (.int x)=>k x | _=>false
noncomputable def asNat(v:V)(k:Nat→Bool):Bool:=asInt v fun z=>@Int.rec (fun _=>Bool) k (fun _=>false) z
noncomputable def isNo(v:V):Bool:=match v with | .a .none=>true | _=>false
noncomputable def asSn(v:V)(k:Nat→Bool):Bool:=match v with | .a (.symnum x)=>k x | _=>false
noncomputable def asTup(v:V)(k:VL→Bool):Bool:=match v with | .tup x=>k x | _=>false
noncomputable def asRef(v:V)(k:Nat→Bool):Bool:=match v with | .ref x=>k x | _=>false
noncomputable def asA(v:V)(k:C→Bool):Bool:=match v with | .a x=>k x | _=>false
noncomputable def asBool(v:V)(k:Bool→Bool):Bool:=match v with | .a (.bool x)=>k x | _=>false
noncomputable def lstAt(o:O)(k:Nat→VL→Bool):Bool:=@O.rec (fun _=>Bool) (fun _ _=>false) k (fun _ _=>false) false false (fun _ _=>false) false (fun _=>false) o
noncomputable def cap(vs:VL)(k:Bool):Bool:=@Bool.rec (fun _=>Bool) false k (Nat.ble (VL.len vs) (nat_lit 100))
noncomputable def lst0(o:O)(k:VL→Bool):Bool:=lstAt o fun p vs=>@Bool.rec (fun _=>Bool) false (k vs) (Nat.beq p (nat_lit 0))
noncomputable def listOf(v:V)(h:HT)(k:VL→Bool):Bool:=asRef v fun a=>lst0 (h.get a) k
noncomputable def iteratorOf(v:V)(h:HT)(k:It→Bool):Bool:=match v with
 | .a (.rng a b s)=>k (.rng a b s)
 | .ref a=>lst0 (h.get a) fun _=>k (.lst a 0)
 | _=>false
noncomputable def enumOf(v:V)(h:HT)(k:It→Bool):Bool:=match v with
 | .ref a=>lst0 (h.get a) fun _=>k (.enuL 0 a 0)
 | .tup vs=>k (.enuV 0 vs)
 | _=>false
noncomputable def ltB(x y:Int):Bool:=match Int.decLt x y with | .isTrue _=>true | .isFalse _=>false
noncomputable def leB(x y:Int):Bool:=match Int.decLe x y with | .isTrue _=>true | .isFalse _=>false
noncomputable def eqB(x y:Int):Bool:=match Int.instDecidableEq x y with | .isTrue _=>true | .isFalse _=>false
noncomputable def nextOf(i:It)(h:HT)(kn:Bool)(ks:V→It→Bool):Bool:=match i with
 | .rng a b s=>match s with
  | .ofNat _=>@Bool.rec (fun _=>Bool) kn (intK (Int.add a s) fun a'=>ks (.a (.int a)) (.rng a' b s)) (ltB a b)
  | .negSucc _=>@Bool.rec (fun _=>Bool) kn (intK (Int.add a s) fun a'=>ks (.a (.int a)) (.rng a' b s)) (ltB b a)
 | .lst id j=>lst0 (h.get id) fun vs=>match vs.at j with
   | some v=>forceN (Nat.add j (nat_lit 1)) fun j'=>ks v (.lst id j')
   | none=>kn
 | .enuL c id j=>lst0 (h.get id) fun vs=>match vs.at j with
   | some v=>forceN (Nat.add j (nat_lit 1)) fun j'=>forceN (Nat.add c (nat_lit 1)) fun c'=>ks (.tup [natV c,v]) (.enuL c' id j')
   | none=>kn
 | .enuV c vs=>match vs with
  | []=>kn
  | v :: r=>forceN (Nat.add c (nat_lit 1)) fun c'=>ks (.tup [natV c,v]) (.enuV c' r)
noncomputable def bindNames(ps:List Nat):VL→FL→(FL→Bool)→Bool:=@List.rec Nat (fun _=>VL→FL→(FL→Bool)→Bool)
 (fun vs l k=>match vs with | []=>k l | _ :: _=>false)
 (fun p _ ih vs l k=>match vs with | v :: vs'=>l.setK p v fun l'=>ih vs' l' k | []=>false) ps
inductive TGT where
 | one (x:Nat) | many (xs:List Nat)
noncomputable def bindT(t:TGT)(v:V)(l:FL)(k:FL→Bool):Bool:=match t with
 | .one x=>l.setK x v k
 | .many xs=>asTup v fun vs=>bindNames xs vs l k
noncomputable def clsAnc(d c:Nat)(k:Bool→Bool):Bool:=optK (clT.get d) fun cd=>k (memN cd.anc c)
inductive TyD where
 | typ (k:Nat) | own (c:Nat)
noncomputable def C.ty(c:C):Option TyD:=match c with
 | .none=>some (.typ 0) | .bool _=>some (.typ 1) | .int _ | .num _ _ | .upto _ | .symnum _=>some (.typ 2) | .str _=>some (.typ 3) | .sym _=>some (.own 2)
 | _=>Option.none
noncomputable def V.ty(v:V)(h:HT):Option TyD:=match v with
 | .a c=>C.ty c
 | .ref i=>@O.rec (fun _=>Option TyD) (fun c _=>some (.own c)) (fun _ _=>some (.typ 4)) (fun _ _=>some (.typ 5)) none none (fun _ _=>none) none (fun _=>none) (h.get i)
 | .obj c _=>some (.own c)
 | .tup _=>some (.typ 6)
 | _=>none
noncomputable def isD(c:C)(d:TyD)(k:Bool→Bool):Bool:=match c with
 | .cls c=>optK (clT.get c) fun _=>@TyD.rec (fun _=>Bool) (fun _=>k false) (fun e=>clsAnc e c k) d
 | .blt b=>@Bool.rec (fun _=>Bool) false (@TyD.rec (fun _=>Bool) (fun t=>k (Nat.beq t (nat_lit 3))) (fun _=>k false) d) (Nat.beq b (nat_lit 8))
 | _=>false
noncomputable def C.sh(c:C):Nat:=@C.rec (fun _=>Nat) (nat_lit 0) (fun _=>nat_lit 1) (fun _=>nat_lit 2) (fun _ _=>nat_lit 2) (fun _=>nat_lit 2) (fun _=>nat_lit 3) (fun _=>nat_lit 4) (fun _=>nat_lit 2) (fun _=>nat_lit 9) (fun _=>nat_lit 9) (fun _=>nat_lit 9) (fun _=>nat_lit 9) (fun _ _ _=>nat_lit 9) (nat_lit 9) (nat_lit 9) c
noncomputable def V.sh(v:V):Nat:=match v with | .a c=>C.sh c | .ref _ | .obj _ _ | .tup _=>nat_lit 4 | _=>nat_lit 9
noncomputable def isA(c:C)(b:V)(k:Bool→Bool):Bool:=match c with
 | .none=>k true
 | .sym x=>(match b with
  | .a (.sym y)=>k (Nat.beq x y)
  | .obj d _=>@Bool.rec (fun _=>Bool) (k false) false (Nat.beq d (nat_lit 2))
  | _=>false)
 | .int x=>(match b with
  | .a (.int y)=>(match x with | .ofNat m=>@Bool.rec (fun _=>Bool) false (@Bool.rec (fun _=>Bool) false (k true) (eqB x y)) (Nat.ble m (nat_lit 256)) | _=>false)
  | _=>false)
 | _=>false
noncomputable def isK(a b:V)(k:Bool→Bool):Bool:=@Bool.rec (fun _=>Bool)
 (@Bool.rec (fun _=>Bool) false (@Bool.rec (fun _=>Bool) false (k false) (Nat.ble (V.sh b) (nat_lit 4))) (Nat.ble (V.sh a) (nat_lit 4)))
 (match a with
 | .a c=>isA c b k
 | .obj c xs=>(match b with
  | .a (.sym _)=>@Bool.rec (fun _=>Bool) (k false) false (Nat.beq c (nat_lit 2))
  | .obj d ys=>@Bool.rec (fun _=>Bool) false (@Bool.rec (fun _=>Bool) false (@Bool.rec (fun _=>Bool) false (@Bool.rec (fun _=>Bool) (k false) false (Nat.beq (VL.sz xs) (VL.sz ys))) (Nat.ble (VL.sz ys) 100000)) (Nat.ble (VL.sz xs) 100000)) (Nat.beq c d)
  | _=>false)
 | _=>false) (Nat.beq (V.sh a) (V.sh b))
noncomputable def fieldsK(ns:List Nat)(l:FL):(VL→Bool)→Bool:=@List.rec Nat (fun _=>(VL→Bool)→Bool) (fun k=>k []) (fun x _ ih k=>optK (l.look x) fun v=>ih fun r=>k (v :: r)) ns
noncomputable def fieldAt(ns:List Nat):VL→Nat→Option V:=@List.rec Nat (fun _=>VL→Nat→Option V) (fun _ _=>none) (fun y _ ih vs x=>@List.rec V (fun _=>Option V) none (fun v r _=>@Bool.rec (fun _=>Option V) (ih r x) (some v) (Nat.beq y x)) vs) ns
noncomputable def mthK(cd:CD)(a:Nat)(km:Nat→Bool):Bool:=optK (assoc cd.mths a) km
noncomputable def attrK(v:V)(a:Nat)(h:HT)(kv:V→Bool)(km:Nat→Bool):Bool:=match v with
 | .a x=>match x with
  | .sym s=>@Bool.rec (fun _=>Bool) (@Bool.rec (fun _=>Bool) false (kv (.a (.symnum s))) (Nat.beq a nNumber)) (kv (.a (.str s))) (Nat.beq a nName)
  | _=>false
 | .ref i=>match h.get i with
  | .inst c fs=>@Option.rec V (fun _=>Bool) (optK (clT.get c) fun cd=>mthK cd a km) kv (fs.look a)
  | .obar=>@Bool.rec (fun _=>Bool) false (km (nat_lit 191)) (Nat.beq a nIntern)
  | _=>false
 | .obj c fs=>optK (clT.get c) fun cd=>@Option.rec V (fun _=>Bool) (mthK cd a km) kv (fieldAt cd.fields fs a)
 | .exc c fs=>optK (clT.get c) fun cd=>optK (fieldAt cd.fields fs a) kv
 | _=>false
noncomputable def foldB(d:Bool)(l:VL):Option Bool:=@List.rec V (fun _=>Option Bool) (some d) (fun v _ ih=>match v with | .a (.bool b)=>@Bool.rec (fun _=>Option Bool) (@Bool.rec (fun _=>Option Bool) ih (some false) d) (@Bool.rec (fun _=>Option Bool) (some true) ih d) b | _=>none) l
noncomputable def allBelow(n:Nat)(k:Nat→Bool):Bool:=@Nat.rec (fun _=>Bool) true (fun n ih=>@Bool.rec (fun _=>Bool) false (k n) ih) n
noncomputable def as1(vs:VL)(k:V→Bool):Bool:=match vs with | [v]=>k v | _=>false
noncomputable def as2(vs:VL)(k:V→V→Bool):Bool:=match vs with | [v,w]=>k v w | _=>false
noncomputable def bLen(vs:VL)(h:HT)(n:Nat)(k:KV):Bool:=as1 vs fun v=>listOf v h fun xs=>forceN (VL.len xs) fun m=>k (natV m) h n
noncomputable def bIsinstance(vs:VL)(h:HT)(n:Nat)(k:KV):Bool:=as2 vs fun v c=>asA c fun c=>optK (V.ty v h) fun d=>isD c d fun r=>k (.a (.bool r)) h n
noncomputable def bScan(d:Bool)(vs:VL)(h:HT)(n:Nat)(k:KV):Bool:=as1 vs fun v=>listOf v h fun xs=>optK (foldB d xs) fun r=>k (.a (.bool r)) h n
noncomputable def bList(vs:VL)(h:HT)(n:Nat)(k:KV):Bool:=as1 vs fun v=>listOf v h fun xs=>newO (.lst 0 xs) h n k
noncomputable def smallZ(z:Int):Bool:=match z with | .ofNat n=>Nat.ble n (nat_lit 1000) | .negSucc n=>Nat.ble n (nat_lit 1000)
noncomputable def rngK(a b s:Int)(h:HT)(n:Nat)(k:KV):Bool:=@Bool.rec (fun _=>Bool) false (@Bool.rec (fun _=>Bool) false (k (.a (.rng a b s)) h n) (smallZ b)) (smallZ a)
noncomputable def bRange(vs:VL)(h:HT)(n:Nat)(k:KV):Bool:=match vs with
 | [x]=>asInt x fun a=>rngK (.ofNat 0) a (.ofNat 1) h n k
 | [x,y,z]=>asInt x fun a=>asInt y fun b=>asInt z fun c=>@Bool.rec (fun _=>Bool) false (rngK a b (.negSucc 0) h n k) (eqB c (.negSucc 0))
 | _=>false
noncomputable def bltK(b:Nat)(vs:VL)(h:HT)(n:Nat)(k:KV):Bool:=match b with
 | 0=>bLen vs h n k
 | 1=>bRange vs h n k
 | 2=>bIsinstance vs h n k
 | 3=>bScan true vs h n k
 | 4=>bScan false vs h n k
 | 5=>bList vs h n k
 | _=>false
noncomputable def isLm(a:Nat):Bool:=@Bool.rec (fun _=>Bool) (Nat.beq a nPop) true (Nat.beq a nAppend)
noncomputable def as0(vs:VL)(k:Bool):Bool:=@List.rec V (fun _=>Bool) k (fun _ _ _=>false) vs
noncomputable def mLst(i p:Nat)(xs:VL)(a:Nat)(vs:VL)(h:HT)(n:Nat)(k:KV):Bool :=
 @Bool.rec (fun _=>Bool)
  (@Bool.rec (fun _=>Bool) false (as0 vs (VL.popK xs fun x ys=>setO i (.lst p ys) h fun h'=>k x h' n)) (Nat.beq a nPop))
  (as1 vs fun x=>VL.appK xs [x] fun ys=>cap ys <| setO i (.lst p ys) h fun h'=>k (.a .none) h' n) (Nat.beq a nAppend)
noncomputable def mDic(d:Nat)(fs:FL)(vs:VL)(h:HT)(n:Nat)(k:KV):Bool:=as2 vs fun a df=>asSn a fun s=>@Option.rec V (fun _=>Bool)
 (@Bool.rec (fun _=>Bool) (@Bool.rec (fun _=>Bool) false (k (.a .none) h n) (isNo df)) (k df h n) (Nat.beq d (nat_lit 0))) (fun x=>k x h n) (fs.look s)
noncomputable def asUp(v:V)(k:Nat→Bool):Bool:=match v with | .a (.upto m)=>k m | _=>false
noncomputable def addK(a b:V)(h:HT)(n:Nat)(k:KV):Bool:=match a with
 | .a c=>(match c with
  | .int x=>asA b fun d=>(match d with
   | .int y=>intK (Int.add x y) fun z=>k (.a (.int z)) h n
   | .num i c=>@Int.rec (fun _=>Bool) (fun x=>forceN (Nat.add x c) fun z=>k (.a (.num i z)) h n) (fun _=>false) x
   | _=>false)
  | .upto m=>asNat b fun x=>forceN (Nat.add m x) fun z=>k (.a (.upto z)) h n
  | _=>false)
 | .ref i=>asRef b fun j=>lst0 (h.get i) fun xs=>lst0 (h.get j) fun ys=>VL.appK xs ys fun zs=>cap zs (newO (.lst 0 zs) h n k)
 | _=>false
noncomputable def binK(op:Nat)(a b:V)(h:HT)(n:Nat)(k:KV):Bool:=match op with
 | 0=>addK a b h n k
 | 1=>asInt a fun x=>asInt b fun y=>intK (Int.sub x y) fun z=>k (.a (.int z)) h n
 | 2=>asNat a fun x=>asNat b fun y=>@Nat.rec (fun _=>Bool) false (fun m _=>forceN (Nat.mod x (m + 1)) fun z=>k (natV z) h n) y
 | _=>false
noncomputable def dicAt(o:O)(k:Nat→FL→Bool):Bool:=@O.rec (fun _=>Bool) (fun _ _=>false) (fun _ _=>false) k false false (fun _ _=>false) false (fun _=>false) o
noncomputable def ltK(a b:V)(k:Bool→Bool):Bool:=asInt a fun x=>asInt b fun y=>k (ltB x y)
noncomputable def leK(a b:V)(k:Bool→Bool):Bool:=asInt a fun x=>asInt b fun y=>k (leB x y)
noncomputable def geK(a b:V)(k:Bool→Bool):Bool:=asUp a fun m=>asInt b fun y=>@Bool.rec (fun _=>Bool) false (k false) (ltB (.ofNat (Nat.add m (nat_lit 50000))) y)
noncomputable def notB(b:Bool):Bool:=@Bool.rec (fun _=>Bool) true false b
noncomputable def inC(a b:C):Option Bool:=match a with
 | .symnum s=>(match b with
  | .int y=>@Bool.rec (fun _=>Option Bool) (@Bool.rec (fun _=>Option Bool) none (some (Nat.beq s (nat_lit 1))) (eqB y 1)) (some (Nat.beq s (nat_lit 0))) (eqB y 0)
  | _=>none)
 | .int x=>(match b with | .int y=>some (eqB x y) | _=>none)
 | .str x=>(match b with | .str y=>some (Nat.beq x y) | _=>none)
 | _=>none
noncomputable def inTup(v:C)(l:VL):Option Bool:=@List.rec V (fun _=>Option Bool) (some false) (fun x _ ih=>match x with
 | .a c=>@Option.rec Bool (fun _=>Option Bool) none (fun a=>@Option.rec Bool (fun _=>Option Bool) none (fun b=>some (@Bool.rec (fun _=>Bool) b true a)) ih) (inC v c)
 | _=>none) l
noncomputable def inK(v w:V)(h:HT)(k:Bool→Bool):Bool:=match w with
 | .tup vs=>asA v fun c=>optK (inTup c vs) k
 | .ref i=>dicAt (h.get i) fun d fs=>@Bool.rec (fun _=>Bool) false (asSn v fun s=>@Option.rec V (fun _=>Bool) (k false) (fun _=>false) (fs.look s)) (Nat.beq d (nat_lit 0))
 | _=>false
noncomputable abbrev EQ:=HT→V→V→(Bool→Bool)→Bool
noncomputable def eqs(ih:EQ)(h:HT)(xs:VL):VL→(Bool→Bool)→Bool:=@List.rec V (fun _=>VL→(Bool→Bool)→Bool) (fun ys k=>match ys with | []=>k true | _=>false)
 (fun x _ ihl ys k=>match ys with | y :: ys=>ih h x y fun r=>ihl ys fun r'=>k (@Bool.rec (fun _=>Bool) false r' r) | []=>false) xs
noncomputable def eqC(a b:C)(k:Bool→Bool):Bool:=match a with
 | .int x=>(match b with | .int y=>k (eqB x y) | _=>false)
 | .num i c=>(match b with | .num j d=>@Bool.rec (fun _=>Bool) false (k (Nat.beq c d)) (Nat.beq i j) | _=>false)
 | .str x=>(match b with | .str y=>k (Nat.beq x y) | _=>false)
 | _=>false
noncomputable def eqV(ih:EQ)(h:HT)(a b:V)(k:Bool→Bool):Bool:=match a with
 | .a x=>(match b with
  | .a y=>eqC x y k
  | _=>false)
 | .ref i=>(match b with
  | .ref j=>@Bool.rec (fun _=>Bool) (lstAt (h.get i) fun p xs=>lstAt (h.get j) fun q ys=>@Bool.rec (fun _=>Bool) false (@Bool.rec (fun _=>Bool) (k false) (eqs ih h xs ys k) (Nat.beq (VL.len xs) (VL.len ys))) (Nat.beq p q)) false (Nat.beq i j)
  | _=>false)
 | _=>false
noncomputable def eqD(n:Nat):EQ:=@Nat.rec (fun _=>EQ) (fun _ _ _ _=>false) (fun _ ih=>eqV ih) n
noncomputable def cmpK(op:Nat)(a b:V)(h:HT)(k:Bool→Bool):Bool:=match op with
 | 0=>eqD (nat_lit 8) h a b k
 | 1=>eqD (nat_lit 8) h a b fun r=>k (notB r)
 | 2=>ltK a b k
 | 3=>leK a b k
 | 4=>ltK b a k
 | 5=>geK a b k
 | 6=>isK a b k
 | 7=>isK a b fun r=>k (notB r)
 | 8=>inK a b h k
 | _=>false
noncomputable def eNone:EM:=fun _ _ h n k _=>k (.a .none) h n
noncomputable def eBool(b:Bool):EM:=fun _ _ h n k _=>k (.a (.bool b)) h n
noncomputable def Xi(z:Nat):EM:=fun _ _ h n k _=>k (.a (.int (.ofNat z))) h n
noncomputable def eStr(s:Nat):EM:=fun _ _ h n k _=>k (.a (.str s)) h n
noncomputable def Xl(x:Nat):EM:=fun _ l h n k _=>optK (l.look x) fun v=>k v h n
noncomputable def Xg(v:V):EM:=fun _ _ h n k _=>k v h n
noncomputable def Xt(e:EM)(a:Nat):EM:=fun ih l h n k kx=>e ih l h n (fun v h n=>attrK v a h (fun w=>k w h n) (fun m=>k (.met v m) h n)) kx
noncomputable def mView(v:V)(h:HT)(kl kd:Nat→Bool)(go:Bool):Bool:=match v with
 | .ref i=>@O.rec (fun _=>Bool) (fun _ _=>go) (fun _ _=>kl i) (fun _ _=>kd i) go go (fun _ _=>go) go (fun _=>go) (h.get i)
 | _=>go
noncomputable def Xm(o:EM)(a:Nat)(as:EMs):EM:=fun ih l h n k kx=>o ih l h n (fun v h n=>mView v h
 (fun i=>@Bool.rec (fun _=>Bool) false (as ih l h n (fun vs h n=>lstAt (h.get i) fun p xs=>mLst i p xs a vs h n k) kx) (isLm a))
 (fun i=>@Bool.rec (fun _=>Bool) false (as ih l h n (fun vs h n=>dicAt (h.get i) fun d fs=>mDic d fs vs h n k) kx) (Nat.beq a nGet))
 (attrK v a h (fun w=>as ih l h n (fun vs h n=>ih.cl w vs h n k kx) kx) (fun m=>as ih l h n (fun vs h n=>ih.cl (.a (.fn m)) (v :: vs) h n k kx) kx))) kx
noncomputable def Xa(f:EM)(as:EMs):EM:=fun ih l h n k kx=>f ih l h n (fun v h n=>as ih l h n (fun vs h n=>ih.cl v vs h n k kx) kx) kx
noncomputable def eBin(op:Nat)(a b:EM):EM:=fun ih l h n k kx=>a ih l h n (fun x h n=>b ih l h n (fun y h n=>binK op x y h n k) kx) kx
noncomputable def eCmp(op:Nat)(a b:EM):EM:=fun ih l h n k kx=>a ih l h n (fun x h n=>b ih l h n (fun y h n=>cmpK op x y h fun r=>k (.a (.bool r)) h n) kx) kx
noncomputable def eAnd(a b:EM):EM:=fun ih l h n k kx=>a ih l h n (fun x h n=>asBool x fun r=>@Bool.rec (fun _=>Bool) (k (.a (.bool false)) h n) (b ih l h n k kx) r) kx
noncomputable def eOr(a b:EM):EM:=fun ih l h n k kx=>a ih l h n (fun x h n=>asBool x fun r=>@Bool.rec (fun _=>Bool) (b ih l h n k kx) (k (.a (.bool true)) h n) r) kx
noncomputable def eNeg(e:EM):EM:=fun ih l h n k kx=>e ih l h n (fun x h n=>asNat x fun m=>@Nat.rec (fun _=>Bool) false (fun m _=>k (.a (.int (.negSucc m))) h n) m) kx
noncomputable def eIte(t:TM)(a b:EM):EM:=fun ih l h n k kx=>t ih l h n (fun r h n=>@Bool.rec (fun _=>Bool) (b ih l h n k kx) (a ih l h n k kx) r) kx
noncomputable def eList(es:EMs):EM:=fun ih l h n k kx=>es ih l h n (fun vs h n=>newO (.lst (nat_lit 0) vs) h n k) kx
noncomputable def eTup(es:EMs):EM:=fun ih l h n k kx=>es ih l h n (fun vs h n=>k (.tup vs) h n) kx
noncomputable def lidx(z:Int)(vs:VL)(k:V→Bool):Bool:=match z with
 | .ofNat j=>optK (VL.at vs j) k
 | .negSucc m=>(match m with | 0=>VL.popK vs fun v _=>k v | _=>false)
noncomputable def tidx(z:Int)(vs:VL)(k:V→Bool):Bool:=match z with
 | .ofNat j=>@Bool.rec (fun _=>Bool) false (optK (VL.at vs j) k) (Nat.ble j (nat_lit 1000))
 | .negSucc _=>false
noncomputable def idxK(x y:V)(h:HT)(k:V→Bool):Bool:=asInt y fun z=>match x with
 | .tup vs=>tidx z vs k
 | .ref a=>lst0 (h.get a) fun vs=>lidx z vs k
 | _=>false
noncomputable def Xj(e i:EM):EM:=fun ih l h n k kx=>e ih l h n (fun x h n=>i ih l h n (fun y h n=>idxK x y h fun v=>k v h n) kx) kx
noncomputable def sliced(vs:VL)(a b:V)(k:VL→Bool):Bool:=@Bool.rec (fun _=>Bool)
 (asNat a fun i=>@Bool.rec (fun _=>Bool)
  (asInt b fun z=>@Bool.rec (fun _=>Bool) false (@Bool.rec (fun _=>Bool) false (VL.takeK vs (Nat.sub (VL.len vs) (nat_lit 1)) fun us=>VL.dropK us i k) (Nat.ble (Nat.add i (nat_lit 1)) (VL.len vs))) (eqB z (.negSucc 0)))
  (@Bool.rec (fun _=>Bool) false (VL.dropK vs i k) (Nat.ble i (VL.len vs))) (isNo b))
 (asNat b fun j=>@Bool.rec (fun _=>Bool) false (VL.takeK vs j k) (Nat.ble j (VL.len vs))) (isNo a)
noncomputable def asStr(v:V)(ks:Nat→Bool)(k:Bool):Bool:=match v with | .a (.str s)=>ks s | _=>k
noncomputable def slcK(x a b:V)(h:HT)(n:Nat)(k:KV):Bool:=asStr x
 (fun s=>@Bool.rec (fun _=>Bool) false (asInt b fun j=>@Bool.rec (fun _=>Bool) false (optK (fsT.get s) fun t=>k (.a (.str t)) h n) (eqB j 1)) (isNo a))
 (listOf x h fun vs=>sliced vs a b fun ws=>newO (.lst (nat_lit 0) ws) h n k)
noncomputable def eSlc(e lo hi:EM):EM:=fun ih l h n k kx=>e ih l h n (fun x h n=>lo ih l h n (fun a h n=>hi ih l h n (fun b h n=>slcK x a b h n k) kx) kx) kx
noncomputable def eDict:EM:=fun _ _ h n k _=>newO (.dic (nat_lit 0) .nil) h n k
noncomputable def eDictS(x y:EM):EM:=fun ih l h n k kx=>x ih l h n (fun a h n=>y ih l h n (fun b h n=>newO (.sdic a b) h n k) kx) kx
noncomputable def noX:KV:=fun _ _ _=>false
noncomputable def cpL(elt:EM)(t:TGT)(ih:RR)(l:FL)(a:Nat)(k:KV)(f:Nat):It→HT→Nat→Bool:=@Nat.rec (fun _=>It→HT→Nat→Bool) (fun _ _ _=>false)
 (fun _ go i h n=>nextOf i h (k (.ref a) h n) fun v i'=>bindT t v l fun l'=>elt ih l' h n (fun x h n=>lstAt (h.get a) fun p xs=>mLst a p xs nAppend [x] h n fun _ h n=>go i' h n) noX) f
noncomputable def restr(l:FL)(xs:List Nat):(FL→Bool)→Bool:=@List.rec Nat (fun _=>(FL→Bool)→Bool) (fun k=>k .nil) (fun x _ ih k=>optK (l.look x) fun v=>ih fun r=>k (.cons x v r)) xs
noncomputable def eComp(elt:EM)(t:TGT)(it:EM)(fr:List Nat):EM:=fun ih l h n k kx=>it ih l h n (fun v h n=>iteratorOf v h fun i=>restr l fr fun l0=>newO (.lst (nat_lit 0) []) h n fun _ h' n'=>cpL elt t ih l0 n k (nat_lit 60) i h' n') kx
noncomputable def Xn:EMs:=fun _ _ h n k _=>k [] h n
noncomputable def Xc(e:EM)(r:EMs):EMs:=fun ih l h n k kx=>e ih l h n (fun v h n=>r ih l h n (fun vs h n=>k (v :: vs) h n) kx) kx
noncomputable def tNot(t:TM):TM:=fun ih l h n k kx=>t ih l h n (fun b h n=>k (notB b) h n) kx
noncomputable def tAnd(a b:TM):TM:=fun ih l h n k kx=>a ih l h n (fun r h n=>@Bool.rec (fun _=>Bool) (k false h n) (b ih l h n k kx) r) kx
noncomputable def tOr(a b:TM):TM:=fun ih l h n k kx=>a ih l h n (fun r h n=>@Bool.rec (fun _=>Bool) (b ih l h n k kx) (k true h n) r) kx
noncomputable def tTrue:TM:=fun _ _ h n k _=>k true h n
noncomputable def tFalse:TM:=fun _ _ h n k _=>k false h n
noncomputable def tCmp(op:Nat)(a b:EM):TM:=fun ih l h n k kx=>a ih l h n (fun x h n=>b ih l h n (fun y h n=>cmpK op x y h fun r=>k r h n) kx) kx
noncomputable def tE(e:EM):TM:=fun ih l h n k kx=>e ih l h n (fun x h n=>asBool x fun b=>k b h n) kx
noncomputable def Yn:SM:=fun _ l h n k=>k.nx l h n
noncomputable def Yc(s r:SM):SM:=fun ih l h n k=>s ih l h n ⟨fun l h n=>r ih l h n k,k.rt,k.bk,k.xc⟩
noncomputable def sExpr(e:EM):SM:=fun ih l h n k=>e ih l h n (fun _ h n=>k.nx l h n) (fun e h n=>k.xc e l h n)
noncomputable def sAsg(x:Nat)(e:EM):SM:=fun ih l h n k=>e ih l h n (fun v h n=>l.setK x v fun l'=>k.nx l' h n) (fun e h n=>k.xc e l h n)
noncomputable def Yz(o:EM)(a:Nat)(e:EM):SM:=fun ih l h n k=>e ih l h n (fun v h n=>o ih l h n (fun w h n=>match w with
 | .ref i=>(match h.get i with | .inst c fs=>optK (clT.get c) fun cd=>@Bool.rec (fun _=>Bool) false (fs.setK a v fun fs'=>setO i (.inst c fs') h fun h'=>k.nx l h' n) (memN cd.flds a) | _=>false)
 | _=>false) (fun e h n=>k.xc e l h n)) (fun e h n=>k.xc e l h n)
noncomputable def putK(kd:Nat)(fs:FL)(s:Nat)(v:V)(k:FL→Bool):Bool:=match kd with
 | 0=>fs.setK s v k
 | 1=>(match v with | .a .none=>fs.eraseK s k | _=>fs.setK s v k)
 | _=>false
noncomputable def sAsgI(o i:EM)(e:EM):SM:=fun ih l h n k=>e ih l h n (fun v h n=>o ih l h n (fun w h n=>i ih l h n (fun j h n=>asRef w fun d=>dicAt (h.get d) fun kd fs=>asSn j fun s=>putK kd fs s v fun fs'=>setO d (.dic kd fs') h fun h'=>k.nx l h' n) (fun e h n=>k.xc e l h n)) (fun e h n=>k.xc e l h n)) (fun e h n=>k.xc e l h n)
noncomputable def sAsgT(xs:List Nat)(e:EM):SM:=fun ih l h n k=>e ih l h n (fun v h n=>asTup v fun vs=>bindNames xs vs l fun l'=>k.nx l' h n) (fun e h n=>k.xc e l h n)
noncomputable def sIf(t:TM)(a b:SM):SM:=fun ih l h n k=>t ih l h n (fun r h n=>@Bool.rec (fun _=>Bool) (b ih l h n k) (a ih l h n k) r) (fun e h n=>k.xc e l h n)
noncomputable def wlL(t:TM)(b:SM)(ih:RR)(k:KS)(f:Nat):FL→HT→Nat→Bool:=@Nat.rec (fun _=>FL→HT→Nat→Bool) (fun _ _ _=>false)
 (fun _ go l h n=>t ih l h n (fun r h n=>@Bool.rec (fun _=>Bool) (k.nx l h n) (b ih l h n ⟨go,k.rt,k.nx,k.xc⟩) r) (fun e h n=>k.xc e l h n)) f
noncomputable def sWhile(t:TM)(b:SM):SM:=fun ih l h n k=>wlL t b ih k (nat_lit 90) l h n
noncomputable def foL(t:TGT)(b:SM)(ih:RR)(k:KS)(f:Nat):It→FL→HT→Nat→Bool:=@Nat.rec (fun _=>It→FL→HT→Nat→Bool) (fun _ _ _ _=>false)
 (fun _ go i l h n=>nextOf i h (k.nx l h n) fun v i'=>bindT t v l fun l'=>b ih l' h n ⟨fun l h n=>go i' l h n,k.rt,k.nx,k.xc⟩) f
noncomputable def sForE(t:TGT)(it:EM)(b:SM):SM:=fun ih l h n k=>it ih l h n (fun v h n=>enumOf v h fun i=>foL t b ih k (nat_lit 60) i l h n) (fun e h n=>k.xc e l h n)
noncomputable def sFor(t:TGT)(it:EM)(b:SM):SM:=fun ih l h n k=>it ih l h n (fun v h n=>iteratorOf v h fun i=>foL t b ih k (nat_lit 60) i l h n) (fun e h n=>k.xc e l h n)
noncomputable def sRet(e:EM):SM:=fun ih l h n k=>e ih l h n (fun v h n=>match v with | .exc _ _=>false | _=>k.rt v h n) (fun e h n=>k.xc e l h n)
noncomputable def sRaise(c:Nat)(es:EMs):SM:=fun ih l h n k=>es ih l h n (fun vs h n=>match vs with | [x,y]=>k.xc (.exc c [x,y]) l h n | _=>false) (fun e h n=>k.xc e l h n)
noncomputable def sStuck:SM:=fun _ _ _ _ _=>false
noncomputable def sBreak:SM:=fun _ l h n k=>k.bk l h n
noncomputable abbrev HM:=RR→Nat→V→FL→HT→Nat→KS→Bool
noncomputable def hNil:HM:=fun _ _ e l h n k=>k.xc e l h n
noncomputable def hCons(d nm:Nat)(b:SM)(r:HM):HM:=fun ih c e l h n k=>optK (clT.get c) fun cd=>@Bool.rec (fun _=>Bool) (r ih c e l h n k)
 (l.setK nm e fun l'=>b ih.hand l' h n ⟨fun l h n=>l.eraseK nm fun l=>k.nx l h n,k.rt,fun l h n=>l.eraseK nm fun l=>k.bk l h n,fun e l h n=>l.eraseK nm fun l=>k.xc e l h n⟩) (memN cd.anc d)
noncomputable def sTryE(b:SM)(hs:HM):SM:=fun ih l h n k=>b ih l h n ⟨k.nx,k.rt,k.bk,fun e l h n=>match e with | .exc c _=>hs ih c e l h n k | _=>false⟩
noncomputable def sTryF(b f:SM):SM:=fun ih l h n k=>b ih l h n ⟨fun l h n=>f ih l h n k,fun _ _ _=>false,fun _ _ _=>false,fun e l h n=>f ih.hand l h n ⟨fun l h n=>k.xc e l h n,fun _ _ _=>false,fun _ _ _=>false,k.xc⟩⟩
noncomputable def bodyK(b:SM)(ih:RR)(l:FL)(h:HT)(n:Nat)(k kx:KV):Bool:=b ih l h n ⟨fun _ h n=>k (.a .none) h n,k,fun _ _ _=>false,fun e _ h n=>kx e h n⟩
noncomputable def isObar(o:O):Bool:=match o with | .obar=>true | _=>false
noncomputable def isDeck(o:O):Bool:=match o with | .deck=>true | _=>false
noncomputable def isScr(v:V):Bool:=match v with | .a .scr=>true | _=>false
noncomputable def ntabAt(o:O)(k:Nat→Bool):Bool:=match o with | .ntab d=>k d | _=>false
noncomputable def prim191(vs:VL)(h:HT)(n:Nat)(k:KV):Bool:=as2 vs fun a b=>asRef a fun o=>asStr b (fun s=>@Bool.rec (fun _=>Bool) false (k (.a (.sym s)) h n) (isObar (h.get o))) false
noncomputable def prim205(vs:VL)(h:HT)(n:Nat)(k:KV):Bool:=as2 vs fun a b=>asRef a fun d=>asNat b fun m=>@Bool.rec (fun _=>Bool) false
 (@Bool.rec (fun _=>Bool) (@Bool.rec (fun _=>Bool) (allBelow m fun c=>forceN c fun c=>k (natV c) h n) false (Nat.beq m 0)) (forceN (Nat.add n (nat_lit 1)) fun n'=>k (.a (.num n 0)) h n') (Nat.beq m 90)) (isDeck (h.get d))
noncomputable def prim204(vs:VL)(h:HT)(n:Nat)(k:KV):Bool:=as1 vs fun v=>@Bool.rec (fun _=>Bool) false (newO .deck h n k) (isScr v)
noncomputable def prim207(vs:VL)(h:HT)(n:Nat)(k:KV):Bool:=as1 vs fun v=>asRef v fun a=>ntabAt (h.get (nat_lit 0)) fun d=>@Bool.rec (fun _=>Bool) false (setO (nat_lit 0) (.ntab (nat_lit 1)) h fun h'=>k (.a (.clo a)) h' n) (Nat.beq d 0)
noncomputable def primK(f:Nat)(vs:VL)(h:HT)(n:Nat)(k:KV):Bool:=@Bool.rec (fun _=>Bool) (@Bool.rec (fun _=>Bool) (@Bool.rec (fun _=>Bool) (@Bool.rec (fun _=>Bool) false
 (prim207 vs h n k) (Nat.beq f 207)) (prim204 vs h n k) (Nat.beq f 204)) (prim205 vs h n k) (Nat.beq f 205)) (prim191 vs h n k) (Nat.beq f 191)
noncomputable def fnK(T:TR FD)(ih:RR)(f:Nat)(vs:VL)(h:HT)(n:Nat)(k kx:KV):Bool :=
 @Option.rec FD (fun _=>Bool) (primK f vs h n k) (fun fd=>zipP fd.prms vs fd.dfl fun l=>bodyK fd.body ih l h n k kx) (T.get f)
noncomputable def noObar(h:HT)(n:Nat):Bool:=@Nat.rec (fun _=>Bool) true (fun i ih=>match h.get i with | .obar=>false | _=>ih) n
noncomputable def newK(T:TR FD)(ih:RR)(c:Nat)(vs:VL)(h:HT)(n:Nat)(k kx:KV):Bool:=optK (clT.get c) fun cd=>optK (assoc cd.mths nInit) fun i =>
 @Bool.rec (fun _=>Bool) (@Bool.rec (fun _=>Bool) (@Bool.rec (fun _=>Bool) false
   (@List.rec V (fun _=>Bool) (@Bool.rec (fun _=>Bool) false (@Bool.rec (fun _=>Bool) false (newO .obar h n k) (Nat.ble n (nat_lit 100000))) (noObar h n)) (fun _ _ _=>false) vs) (Nat.beq cd.kind 3))
  (optK (T.get i) fun fd=>zipP fd.prms (.a .unk :: vs) fd.dfl fun l=>fieldsK cd.fields l fun xs=>@Bool.rec (fun _=>Bool) false (k (.obj c xs) h n) (Nat.ble n (nat_lit 100000))) (Nat.beq cd.kind 1))
 (newO (.inst c .nil) h n fun self h1 n1=>fnK T ih i (self :: vs) h1 n1 (fun r h2 n2=>@Bool.rec (fun _=>Bool) false (k self h2 n2) (isNo r)) kx) (Nat.beq cd.kind 0)
noncomputable def callC(T:TR FD)(deed:FD)(ih:RR)(f:C)(vs:VL)(h:HT)(n:Nat)(k kx:KV):Bool:=match f with
 | .fn i=>fnK T ih i vs h n k kx
 | .clo a=>zipP deed.prms vs [] fun l=>bodyK deed.body ih (.cons deed.name (.ref a) l) h n k kx
 | .blt b=>bltK b vs h n k
 | .cls c=>newK T ih c vs h n k kx
 | _=>false
noncomputable def callK(T:TR FD)(deed:FD)(ih:RR)(f:V)(vs:VL)(h:HT)(n:Nat)(k kx:KV):Bool:=match f with
 | .a c=>callC T deed ih c vs h n k kx
 | .met s i=>fnK T ih i (s :: vs) h n k kx
 | _=>false
noncomputable def mk(T:TR FD)(deed:FD)(n:Nat):Bool→RR:=@Nat.rec (fun _=>Bool→RR) (fun hd=>⟨fun _ _ _ _ _ _=>false,fun _ _ _ _ _ _=>false,hd⟩) (fun _ ih hd=>⟨callK T deed (ih hd),callK T deed (ih true),hd⟩) n
end
end Mine
end
section
local macro_rules | `($n:num) => `(nat_lit $n)
open PySem
namespace Mine
noncomputable section
noncomputable def F1:FD:=⟨1,[2,3,4],[],(Yc (Yz (Xl 2) 3 (Xl 3)) (Yc (Yz (Xl 2) 4 (Xl 4)) Yn))⟩
noncomputable def F6:FD:=⟨6,[2,5,6],[],(Yc (Yz (Xl 2) 5 (Xl 5)) (Yc (Yz (Xl 2) 6 (Xl 6)) Yn))⟩
noncomputable def F7:FD:=⟨7,[2,7,8],[(.a .none)],(Yc (Yz (Xl 2) 7 (Xl 7)) (Yc (Yz (Xl 2) 8 (Xl 8)) Yn))⟩
noncomputable def F8:FD:=⟨8,[2,9],[],(Yc (Yz (Xl 2) 9 (Xl 9)) Yn)⟩
noncomputable def F9:FD:=⟨9,[2,10,11,12,13,14],[],(Yc (Yz (Xl 2) 10 (Xl 10)) (Yc (Yz (Xl 2) 11 (Xl 11)) (Yc (Yz (Xl 2) 12 (Xl 12)) (Yc (Yz (Xl 2) 13 (Xl 13)) (Yc (Yz (Xl 2) 14 (Xl 14)) Yn)))))⟩
noncomputable def F13:FD:=⟨13,[9,16],[(.a (.sym 0))],(Yc (sAsg 15 (Xl 16)) (Yc (sFor (.one 17) (Xa (Xg (.a (.blt 1))) (Xc (eBin 1 (Xa (Xg (.a (.blt 0))) (Xc (Xl 9) Xn)) (Xi 1)) (Xc (eNeg (Xi 1)) (Xc (eNeg (Xi 1)) Xn)))) (Yc (sAsg 15 (Xa (Xg (.a (.cls 3))) (Xc (Xj (Xl 9) (Xl 17)) (Xc (Xl 15) Xn)))) Yn)) (Yc (sRet (Xl 15)) Yn)))⟩
noncomputable def F14:FD:=⟨14,[22],[],(Yc (sAsg 9 (eList Xn)) (Yc (sAsg 21 (Xl 22)) (Yc (sAsg 23 (Xl 22)) (Yc (sWhile (tE (Xa (Xg (.a (.blt 2))) (Xc (Xl 21) (Xc (Xg (.a (.cls 3))) Xn)))) (Yc (sExpr (Xm (Xl 9) 25 (Xc (Xt (Xl 21) 5) Xn))) (Yc (sAsg 21 (Xt (Xl 21) 6)) (Yc (sIf (tCmp 0 (eBin 2 (Xa (Xg (.a (.blt 0))) (Xc (Xl 9) Xn)) (Xi 2)) (Xi 0)) (Yc (sAsg 23 (Xt (Xl 23) 6)) (Yc (sIf (tCmp 6 (Xl 21) (Xl 23)) (Yc (sRet (eTup (Xc (Xl 9) (Xc eNone Xn)))) Yn) Yn) Yn)) Yn) Yn)))) (Yc (sRet (eTup (Xc (Xl 9) (Xc (Xl 21) Xn)))) Yn)))))⟩
noncomputable def F15:FD:=⟨15,[22],[],(Yc (sAsgT [9,16] (Xa (Xg (.a (.fn 14))) (Xc (Xl 22) Xn))) (Yc (sRet (eIte (tCmp 6 (Xl 16) (Xg (.a (.sym 0)))) (Xl 9) eNone)) Yn))⟩
noncomputable def F17:FD:=⟨17,[28,12,13],[],(Yc (sRet (eAnd (eCmp 3 (Xl 12) (Xl 28)) (eOr (eCmp 0 (Xl 13) (Xg (.a (.int (.negSucc 0))))) (eCmp 3 (Xl 28) (Xl 13))))) Yn)⟩
noncomputable def F21:FD:=⟨21,[2,11,12,13,30],[],(Yc (Yz (Xl 2) 11 (Xl 11)) (Yc (Yz (Xl 2) 12 (Xl 12)) (Yc (Yz (Xl 2) 13 (Xl 13)) (Yc (Yz (Xl 2) 30 (Xl 30)) Yn))))⟩
noncomputable def F23:FD:=⟨23,[2,33,32],[],(Yc (sIf (tNot (tE (Xa (Xg (.a (.fn 17))) (Xc (Xa (Xg (.a (.blt 0))) (Xc (Xl 32) Xn)) (Xc (Xt (Xl 2) 12) (Xc (Xt (Xl 2) 13) Xn)))))) (Yc (sExpr (Xm (Xl 33) 34 (Xc (Xl 2) (Xc (Xa (Xg (.a (.blt 0))) (Xc (Xl 32) Xn)) Xn)))) Yn) Yn) (Yc (sExpr (Xm (Xl 2) 30 (Xc (Xl 33) (Xc (Xl 32) Xn)))) Yn))⟩
noncomputable def F24:FD:=⟨24,[2,11,12,13,30],[],(Yc (Yz (Xl 2) 11 (Xl 11)) (Yc (Yz (Xl 2) 12 (Xl 12)) (Yc (Yz (Xl 2) 13 (Xl 13)) (Yc (Yz (Xl 2) 30 (Xl 30)) Yn))))⟩
noncomputable def F27:FD:=⟨27,[2,33,35],[],(Yc (sIf (tNot (tE (Xa (Xg (.a (.fn 17))) (Xc (Xa (Xg (.a (.blt 0))) (Xc (Xl 35) Xn)) (Xc (Xt (Xl 2) 12) (Xc (Xt (Xl 2) 13) Xn)))))) (Yc (sExpr (Xm (Xl 33) 34 (Xc (Xl 2) (Xc (Xa (Xg (.a (.blt 0))) (Xc (Xl 35) Xn)) Xn)))) Yn) Yn) (Yc (sExpr (Xm (Xl 2) 30 (Xc (Xl 33) (Xc (Xl 35) Xn)))) Yn))⟩
noncomputable def F28:FD:=⟨28,[3],[],(Yc (sRet (eCmp 0 (eSlc (Xt (Xl 3) 11) eNone (Xi 1)) (eStr 36))) Yn)⟩
noncomputable def F29:FD:=⟨29,[3],[],(Yc (sRet (eOr (eCmp 8 (Xt (Xl 3) 10) (eTup (Xc (Xi 0) (Xc (Xi 1) Xn)))) (Xa (Xg (.a (.fn 28))) (Xc (Xl 3) Xn)))) Yn)⟩
noncomputable def F30:FD:=⟨30,[2],[],(Yc (Yz (Xl 2) 38 eDict) (Yc (Yz (Xl 2) 39 eDict) Yn))⟩
noncomputable def F31:FD:=⟨31,[2,3],[],(Yc (sRet (Xm (Xt (Xl 2) 38) 40 (Xc (Xt (Xl 3) 10) (Xc (Xg (.a (.sym 0))) Xn)))) Yn)⟩
noncomputable def F33:FD:=⟨33,[2,3,41],[],(Yc (sIf (tAnd (tCmp 6 (Xl 3) (Xg (.a (.sym 0)))) (tAnd (tCmp 7 (Xl 41) (Xg (.a (.sym 0)))) tTrue)) (Yc (sRaise 0 (Xc (eStr 43) (Xc (eList (Xc (Xl 3) Xn)) Xn))) Yn) Yn) (Yc (sAsg 21 (Xl 41)) (Yc (sFor (.one 44) (Xa (Xg (.a (.blt 1))) (Xc (Xg (.a (.int (.ofNat 100)))) Xn)) (Yc (sIf (tOr (tNot (tE (Xa (Xg (.a (.blt 2))) (Xc (Xl 21) (Xc (Xg (.a (.cls 2))) Xn))))) (tOr (tCmp 6 (Xl 21) (Xg (.a (.sym 0)))) tFalse)) (Yc sBreak Yn) Yn) (Yc (sIf (tCmp 6 (Xl 21) (Xl 3)) (Yc (sRaise 0 (Xc (eStr 47) (Xc (eList (Xc (Xl 3) Xn)) Xn))) Yn) Yn) (Yc (sAsg 21 (Xm (Xl 2) 48 (Xc (Xl 21) Xn))) Yn)))) (Yc (sAsgI (Xt (Xl 2) 38) (Xt (Xl 3) 10) (Xl 41)) Yn))))⟩
noncomputable def F34:FD:=⟨34,[2,22],[],(Yc (sAsg 21 (Xl 22)) (Yc (sWhile (tAnd (tE (Xa (Xg (.a (.blt 2))) (Xc (Xl 21) (Xc (Xg (.a (.cls 2))) Xn)))) (tAnd (tCmp 7 (Xl 21) (Xg (.a (.sym 0)))) tTrue)) (Yc (sAsg 21 (Xm (Xl 2) 48 (Xc (Xl 21) Xn))) Yn)) (Yc (sRet (Xl 21)) Yn)))⟩
noncomputable def F40:FD:=⟨40,[2,49,50,51],[],(Yc (Yz (Xl 2) 49 (Xl 49)) (Yc (Yz (Xl 2) 50 (Xl 50)) (Yc (Yz (Xl 2) 51 (Xl 51)) Yn)))⟩
noncomputable def F41:FD:=⟨41,[2,28],[],(Yc (sAsg 13 (eBin 0 (Xa (Xg (.a (.blt 0))) (Xc (Xt (Xl 2) 49) Xn)) (Xa (Xg (.a (.blt 0))) (Xc (Xt (Xl 2) 50) Xn)))) (Yc (sRet (eAnd (eCmp 3 (Xa (Xg (.a (.blt 0))) (Xc (Xt (Xl 2) 49) Xn)) (Xl 28)) (eOr (eCmp 7 (Xt (Xl 2) 51) eNone) (eCmp 3 (Xl 28) (Xl 13))))) Yn))⟩
noncomputable def F44:FD:=⟨44,[22,41],[],(Yc (sAsg 52 (Xa (Xg (.a (.fn 15))) (Xc (Xl 22) Xn))) (Yc (sIf (tOr (tCmp 6 (Xl 52) eNone) (tOr (tNot (tE (Xa (Xg (.a (.blt 3))) (Xc (eComp (Xa (Xg (.a (.blt 2))) (Xc (Xl 56) (Xc (Xg (.a (.cls 2))) Xn))) (.one 56) (Xl 52) []) Xn)))) tFalse)) (Yc sStuck Yn) Yn) (Yc (sAsgT [49,50,51] (eTup (Xc (eList Xn) (Xc (eList Xn) (Xc eNone Xn))))) (Yc (sAsg 58 (Xi 0)) (Yc (sFor (.one 17) (Xa (Xg (.a (.blt 1))) (Xc (Xa (Xg (.a (.blt 0))) (Xc (Xl 52) Xn)) Xn)) (Yc (sAsg 56 (Xj (Xl 52) (Xl 17))) (Yc (sIf (tAnd (tCmp 0 (Xt (Xl 56) 11) (Xg (.a (.str 60)))) (tAnd (tCmp 0 (Xl 58) (Xi 0)) tTrue)) (Yc (sAsg 58 (Xi 1)) Yn) (Yc (sIf (tAnd (tCmp 0 (Xt (Xl 56) 11) (Xg (.a (.str 62)))) (tAnd (tCmp 2 (Xl 58) (Xi 2)) (tAnd (tCmp 0 (Xl 17) (eBin 1 (Xa (Xg (.a (.blt 0))) (Xc (Xl 52) Xn)) (Xi 2))) tTrue))) (Yc (sAsg 58 (Xi 2)) Yn) (Yc (sIf (tCmp 8 (Xt (Xl 56) 11) (eTup (Xc (Xg (.a (.str 60))) (Xc (Xg (.a (.str 62))) Xn)))) (Yc sStuck Yn) (Yc (sIf (tCmp 0 (Xl 58) (Xi 0)) (Yc (sExpr (Xm (Xl 49) 25 (Xc (Xl 56) Xn))) Yn) (Yc (sIf (tCmp 0 (Xl 58) (Xi 1)) (Yc (sExpr (Xm (Xl 50) 25 (Xc (Xl 56) Xn))) Yn) (Yc (sAsg 51 (Xl 56)) Yn)) Yn)) Yn)) Yn)) Yn)) Yn))) (Yc (sRet (Xa (Xg (.a (.cls 12))) (Xc (Xl 49) (Xc (Xl 50) (Xc (Xl 51) Xn))))) Yn))))))⟩
noncomputable def F45:FD:=⟨45,[66,32],[],(Yc (sAsg 64 (eList Xn)) (Yc (sForE (.many [17,3]) (eBin 0 (Xt (Xl 66) 49) (Xt (Xl 66) 50)) (Yc (sExpr (Xm (Xl 64) 25 (Xc (eTup (Xc (Xl 3) (Xc (eIte (tCmp 2 (Xl 17) (Xa (Xg (.a (.blt 0))) (Xc (Xl 32) Xn))) (Xj (Xl 32) (Xl 17)) (Xg (.a (.sym 0)))) Xn))) Xn))) Yn)) (Yc (sIf (tCmp 7 (Xt (Xl 66) 51) eNone) (Yc (sExpr (Xm (Xl 64) 25 (Xc (eTup (Xc (Xt (Xl 66) 51) (Xc (Xa (Xg (.a (.fn 13))) (Xc (eSlc (Xl 32) (Xa (Xg (.a (.blt 0))) (Xc (Xl 64) Xn)) eNone) Xn)) Xn))) Xn))) Yn) Yn) (Yc (sRet (Xl 64)) Yn))))⟩
noncomputable def F46:FD:=⟨46,[72,66,32,41],[],(Yc (sIf (tNot (tE (Xm (Xl 66) 68 (Xc (Xa (Xg (.a (.blt 0))) (Xc (Xl 32) Xn)) Xn)))) (Yc (sRaise 0 (Xc (eStr 69) (Xc (eList (Xc (Xl 41) (Xc (Xa (Xg (.a (.blt 0))) (Xc (Xl 32) Xn)) Xn))) Xn))) Yn) Yn) (Yc (sFor (.many [3,70]) (Xa (Xg (.a (.fn 45))) (Xc (Xl 66) (Xc (Xl 32) Xn))) (Yc (sExpr (Xm (Xl 72) 73 (Xc (Xl 3) (Xc (Xl 70) Xn)))) Yn)) Yn))⟩
noncomputable def F47:FD:=⟨47,[2],[],(Yc (Yz (Xl 2) 74 eDict) (Yc (Yz (Xl 2) 75 eDict) (Yc (Yz (Xl 2) 76 eDict) Yn)))⟩
noncomputable def F48:FD:=⟨48,[2,3],[],(Yc (sRet (Xm (Xt (Xl 2) 74) 40 (Xc (Xl 3) (Xc (Xg (.a .none)) Xn)))) Yn)⟩
noncomputable def F49:FD:=⟨49,[2,3,70],[],(Yc (sAsgI (Xt (Xl 2) 74) (Xl 3) (Xl 70)) Yn)⟩
noncomputable def F54:FD:=⟨54,[2],[],(Yc (Yz (Xl 2) 78 eDict) Yn)⟩
noncomputable def F55:FD:=⟨55,[2,3],[],(Yc (sRet (eCmp 8 (Xl 3) (Xt (Xl 2) 78))) Yn)⟩
noncomputable def F60:FD:=⟨60,[81,79,3],[],(Yc (sIf (tE (Xm (Xl 79) 80 (Xc (Xl 3) Xn))) (Yc (sRet (Xj (Xt (Xl 79) 78) (Xl 3))) Yn) Yn) (Yc (sRet (Xm (Xl 81) 82 (Xc (Xl 3) Xn))) Yn))⟩
noncomputable def F62:FD:=⟨62,[2,58,79,3,70],[],(Yc (Yz (Xl 2) 58 (Xl 58)) (Yc (Yz (Xl 2) 79 (Xl 79)) (Yc (Yz (Xl 2) 3 (Xl 3)) (Yc (Yz (Xl 2) 70 (Xl 70)) Yn))))⟩
noncomputable def F63:FD:=⟨63,[81,79,3,70],[],(Yc (sIf (tE (Xm (Xl 79) 80 (Xc (Xl 3) Xn))) (Yc (sAsg 83 (Xa (Xg (.a (.cls 15))) (Xc (Xg (.a (.int (.ofNat 0)))) (Xc (Xl 79) (Xc (Xl 3) (Xc (Xj (Xt (Xl 79) 78) (Xl 3)) Xn)))))) (Yc (sAsgI (Xt (Xl 79) 78) (Xl 3) (Xl 70)) (Yc (sRet (Xl 83)) Yn))) Yn) (Yc (sAsg 83 (Xa (Xg (.a (.cls 15))) (Xc (Xg (.a (.int (.ofNat 1)))) (Xc eNone (Xc (Xl 3) (Xc (Xm (Xl 81) 82 (Xc (Xl 3) Xn)) Xn)))))) (Yc (sExpr (Xm (Xl 81) 87 (Xc (Xl 3) (Xc (Xl 70) Xn)))) (Yc (sRet (Xl 83)) Yn))))⟩
noncomputable def F64:FD:=⟨64,[81,83],[],(Yc (sIf (tCmp 0 (Xt (Xl 83) 58) (Xg (.a (.int (.ofNat 1))))) (Yc (sExpr (Xm (Xl 81) 87 (Xc (Xt (Xl 83) 3) (Xc (Xt (Xl 83) 70) Xn)))) Yn) (Yc (sIf (tE (Xm (Xt (Xl 83) 79) 80 (Xc (Xt (Xl 83) 3) Xn))) (Yc (sAsgI (Xt (Xt (Xl 83) 79) 78) (Xt (Xl 83) 3) (Xt (Xl 83) 70)) Yn) Yn) Yn)) Yn)⟩
noncomputable def F65:FD:=⟨65,[2,88],[],(Yc (Yz (Xl 2) 88 (Xl 88)) (Yc (Yz (Xl 2) 89 (eList Xn)) Yn))⟩
noncomputable def F66:FD:=⟨66,[2],[],(Yc (sRet (Xa (Xg (.a (.blt 0))) (Xc (Xt (Xl 2) 89) Xn))) Yn)⟩
noncomputable def F67:FD:=⟨67,[2,3,70],[],(Yc (sIf (tE (Xa (Xg (.a (.fn 29))) (Xc (Xl 3) Xn))) (Yc (sRaise 0 (Xc (eStr 43) (Xc (eList (Xc (Xl 3) Xn)) Xn))) Yn) Yn) (Yc (sExpr (Xm (Xt (Xl 2) 89) 25 (Xc (Xa (Xg (.a (.fn 63))) (Xc (Xt (Xt (Xl 2) 88) 81) (Xc (Xm (Xt (Xl 2) 88) 79 Xn) (Xc (Xt (Xl 3) 10) (Xc (Xl 70) Xn))))) Xn))) Yn))⟩
noncomputable def F69:FD:=⟨69,[2,92],[],(Yc (sWhile (tCmp 4 (Xa (Xg (.a (.blt 0))) (Xc (Xt (Xl 2) 89) Xn)) (Xl 92)) (Yc (sAsg 93 (Xm (Xt (Xl 2) 89) 94 Xn)) (Yc (sIf (tE (Xa (Xg (.a (.blt 2))) (Xc (Xl 93) (Xc (Xg (.a (.cls 15))) Xn)))) (Yc (sExpr (Xa (Xg (.a (.fn 64))) (Xc (Xt (Xt (Xl 2) 88) 81) (Xc (Xl 93) Xn)))) Yn) (Yc (sExpr (Xm (Xl 93) 96 (Xc (Xt (Xt (Xl 2) 88) 33) Xn))) Yn)) Yn))) Yn)⟩
noncomputable def F70:FD:=⟨70,[2,97,70],[],(Yc (Yz (Xl 2) 97 (Xl 97)) (Yc (Yz (Xl 2) 70 (Xl 70)) Yn))⟩
noncomputable def F72:FD:=⟨72,[2,33,98],[],(Yc (sRet (eBool false)) Yn)⟩
noncomputable def F73:FD:=⟨73,[2,33,98],[],(Yc (sRet (eBool false)) Yn)⟩
noncomputable def F74:FD:=⟨74,[2,99],[],(Yc (Yz (Xl 2) 99 (Xl 99)) Yn)⟩
noncomputable def F75:FD:=⟨75,[2,33],[],(Yc (sExpr (Xm (Xl 33) 94 Xn)) (Yc (sExpr (Xm (Xl 33) 100 (Xc (Xt (Xl 2) 99) Xn))) Yn))⟩
noncomputable def F76:FD:=⟨76,[2,41,32],[],(Yc (Yz (Xl 2) 41 (Xl 41)) (Yc (Yz (Xl 2) 32 (Xl 32)) Yn))⟩
noncomputable def F77:FD:=⟨77,[2,33],[],(Yc (sExpr (Xm (Xl 33) 94 Xn)) (Yc (sExpr (Xm (Xl 33) 101 (Xc (Xt (Xl 2) 41) (Xc (Xt (Xl 2) 32) Xn)))) Yn))⟩
noncomputable def F78:FD:=⟨78,[2,102,35],[],(Yc (Yz (Xl 2) 102 (Xl 102)) (Yc (Yz (Xl 2) 35 (Xl 35)) (Yc (Yz (Xl 2) 15 (eList Xn)) (Yc (Yz (Xl 2) 103 (eBool false)) Yn))))⟩
noncomputable def F79:FD:=⟨79,[2,33],[],(Yc (sIf (tE (Xt (Xl 2) 103)) (Yc (sExpr (Xm (Xt (Xl 2) 15) 25 (Xc (Xt (Xl 33) 70) Xn))) Yn) Yn) (Yc (sIf (tCmp 2 (Xa (Xg (.a (.blt 0))) (Xc (Xt (Xl 2) 15) Xn)) (Xa (Xg (.a (.blt 0))) (Xc (Xt (Xl 2) 35) Xn))) (Yc (Yz (Xl 2) 103 (eBool true)) (Yc (sExpr (Xm (Xl 33) 100 (Xc (Xj (Xt (Xl 2) 35) (Xa (Xg (.a (.blt 0))) (Xc (Xt (Xl 2) 15) Xn))) Xn))) Yn)) (Yc (sExpr (Xm (Xl 33) 94 Xn)) (Yc (sExpr (Xm (Xl 33) 101 (Xc (Xt (Xl 2) 102) (Xc (Xt (Xl 2) 15) Xn)))) Yn))) Yn))⟩
noncomputable def F80:FD:=⟨80,[2,35],[],(Yc (Yz (Xl 2) 35 (Xl 35)) (Yc (Yz (Xl 2) 17 (Xi 0)) Yn))⟩
noncomputable def F81:FD:=⟨81,[2,33],[],(Yc (sAsg 99 (Xj (Xt (Xl 2) 35) (Xt (Xl 2) 17))) (Yc (Yz (Xl 2) 17 (eBin 0 (Xt (Xl 2) 17) (Xi 1))) (Yc (sIf (tCmp 0 (Xt (Xl 2) 17) (Xa (Xg (.a (.blt 0))) (Xc (Xt (Xl 2) 35) Xn))) (Yc (sExpr (Xm (Xl 33) 94 Xn)) Yn) Yn) (Yc (sExpr (Xm (Xl 33) 100 (Xc (Xl 99) Xn))) Yn))))⟩
noncomputable def F82:FD:=⟨82,[2,35,92],[],(Yc (Yz (Xl 2) 35 (Xl 35)) (Yc (Yz (Xl 2) 92 (Xl 92)) (Yc (Yz (Xl 2) 17 (Xi 0)) Yn)))⟩
noncomputable def F83:FD:=⟨83,[2,33],[],(Yc (sIf (tCmp 2 (Xt (Xl 2) 17) (Xa (Xg (.a (.blt 0))) (Xc (Xt (Xl 2) 35) Xn))) (Yc (Yz (Xl 2) 17 (eBin 0 (Xt (Xl 2) 17) (Xi 1))) (Yc (sExpr (Xm (Xl 33) 100 (Xc (Xj (Xt (Xl 2) 35) (eBin 1 (Xt (Xl 2) 17) (Xi 1))) Xn))) Yn)) (Yc (sAsg 70 (eIte (tCmp 1 (Xt (Xl 2) 35) (eList Xn)) (Xt (Xl 33) 70) (Xg (.a (.sym 0))))) (Yc (sExpr (Xm (Xt (Xl 33) 72) 104 (Xc (Xt (Xl 2) 92) Xn))) (Yc (sExpr (Xm (Xl 33) 105 (Xc (Xl 70) Xn))) Yn)))) Yn)⟩
noncomputable def F84:FD:=⟨84,[2,33,98],[],(Yc (sExpr (Xm (Xt (Xl 33) 72) 104 (Xc (Xt (Xl 2) 92) Xn))) (Yc (sRet (eBool false)) Yn))⟩
noncomputable def F86:FD:=⟨86,[22,11],[],(Yc (sRet (eAnd (Xa (Xg (.a (.blt 2))) (Xc (Xl 22) (Xc (Xg (.a (.cls 3))) Xn))) (eAnd (Xa (Xg (.a (.blt 2))) (Xc (Xt (Xl 22) 5) (Xc (Xg (.a (.cls 2))) Xn))) (eCmp 0 (Xt (Xt (Xl 22) 5) 11) (Xl 11))))) Yn)⟩
noncomputable def F87:FD:=⟨87,[106,107],[],(Yc (sRet (eOr (eCmp 6 (Xl 106) (Xl 107)) (eAnd (Xa (Xg (.a (.blt 2))) (Xc (Xl 106) (Xc (Xg (.a (.blt 7))) Xn))) (eAnd (Xa (Xg (.a (.blt 2))) (Xc (Xl 107) (Xc (Xg (.a (.blt 7))) Xn))) (eCmp 0 (Xl 106) (Xl 107)))))) Yn)⟩
noncomputable def F88:FD:=⟨88,[2,88,109],[],(Yc (Yz (Xl 2) 88 (Xl 88)) (Yc (Yz (Xl 2) 109 (Xl 109)) (Yc (Yz (Xl 2) 110 (eList Xn)) (Yc (Yz (Xl 2) 111 (Xi 0)) (Yc (Yz (Xl 2) 70 (Xg (.a (.sym 0)))) (Yc (Yz (Xl 2) 112 (Xi 0)) (Yc (Yz (Xl 2) 72 (Xa (Xg (.a (.cls 16))) (Xc (Xl 88) Xn))) (Yc (Yz (Xl 88) 33 (Xl 2)) Yn))))))))⟩
noncomputable def F89:FD:=⟨89,[2,70],[],(Yc (Yz (Xl 2) 70 (Xl 70)) Yn)⟩
noncomputable def F90:FD:=⟨90,[2,114],[],(Yc (sExpr (Xm (Xt (Xl 2) 110) 25 (Xc (Xl 114) Xn))) Yn)⟩
noncomputable def F91:FD:=⟨91,[2],[],(Yc (sExpr (Xm (Xt (Xl 2) 110) 94 Xn)) Yn)⟩
noncomputable def F92:FD:=⟨92,[2,70],[],(Yc (sExpr (Xm (Xt (Xl 2) 110) 94 Xn)) (Yc (Yz (Xl 2) 70 (Xl 70)) Yn))⟩
noncomputable def F93:FD:=⟨93,[2,41,28],[],(Yc (sRaise 0 (Xc (eStr 69) (Xc (eList (Xc (Xl 41) (Xc (Xl 28) Xn))) Xn))) Yn)⟩
noncomputable def F94:FD:=⟨94,[2,3],[],(Yc (sIf (tE (Xa (Xg (.a (.fn 29))) (Xc (Xl 3) Xn))) (Yc (sRet (Xl 3)) Yn) Yn) (Yc (sAsg 15 (Xa (Xg (.a (.fn 60))) (Xc (Xt (Xt (Xl 2) 88) 81) (Xc (Xm (Xt (Xl 2) 88) 79 Xn) (Xc (Xt (Xl 3) 10) Xn))))) (Yc (sIf (tCmp 6 (Xl 15) (Xg (.a .none))) (Yc (sRaise 0 (Xc (eStr 116) (Xc (eList (Xc (Xl 3) Xn)) Xn))) Yn) Yn) (Yc (sRet (Xl 15)) Yn))))⟩
noncomputable def F96:FD:=⟨96,[2,99],[],(Yc (sIf (tE (Xa (Xg (.a (.blt 2))) (Xc (Xl 99) (Xc (Xg (.a (.cls 2))) Xn)))) (Yc (sExpr (Xm (Xl 2) 117 (Xc (Xm (Xl 2) 118 (Xc (Xl 99) Xn)) Xn))) Yn) (Yc (sIf (tE (Xa (Xg (.a (.blt 2))) (Xc (Xl 99) (Xc (Xg (.a (.cls 3))) Xn)))) (Yc (sExpr (Xm (Xl 2) 119 (Xc (Xt (Xl 99) 5) (Xc (Xm (Xl 2) 120 (Xc (Xt (Xl 99) 6) Xn)) Xn)))) Yn) (Yc (sExpr (Xm (Xl 2) 117 (Xc (Xl 99) Xn))) Yn)) Yn)) Yn)⟩
noncomputable def F97:FD:=⟨97,[2,22],[],(Yc (sAsg 15 (Xa (Xg (.a (.fn 15))) (Xc (Xl 22) Xn))) (Yc (sIf (tCmp 6 (Xl 15) eNone) (Yc (sRaise 0 (Xc (eStr 121) (Xc (eList (Xc (Xm (Xt (Xl 2) 88) 3 (Xc (eStr 122) Xn)) (Xc (Xl 22) Xn))) Xn))) Yn) Yn) (Yc (sRet (Xl 15)) Yn)))⟩
noncomputable def F98:FD:=⟨98,[2,102,35],[],(Yc (sAsg 41 (eIte (tE (Xa (Xg (.a (.blt 2))) (Xc (Xl 102) (Xc (Xg (.a (.cls 2))) Xn)))) (Xm (Xt (Xt (Xl 2) 88) 123) 124 (Xc (Xl 102) Xn)) (Xl 102))) (Yc (sIf (tE (Xa (Xg (.a (.blt 2))) (Xc (Xl 41) (Xc (Xg (.a (.cls 10))) Xn)))) (Yc (sExpr (Xm (Xl 41) 126 (Xc (Xl 2) (Xc (Xl 35) Xn)))) Yn) (Yc (sIf (tE (Xa (Xg (.a (.fn 86))) (Xc (Xl 41) (Xc (eStr 128) Xn)))) (Yc (sExpr (Xm (Xl 2) 129 (Xc (Xa (Xg (.a (.cls 24))) Xn) Xn))) (Yc (sExpr (Xm (Xl 2) 101 (Xc (Xt (Xl 41) 6) (Xc (Xl 35) Xn)))) Yn)) (Yc (sExpr (Xm (Xl 2) 129 (Xc (Xa (Xg (.a (.cls 21))) (Xc (Xl 102) (Xc (Xl 35) Xn))) Xn))) Yn)) Yn)) Yn))⟩
noncomputable def F100:FD:=⟨100,[2,22],[],(Yc (sIf (tNot (tE (Xa (Xg (.a (.blt 2))) (Xc (Xl 22) (Xc (Xg (.a (.cls 2))) Xn))))) (Yc (sRet (Xl 22)) Yn) Yn) (Yc (sAsg 15 (Xm (Xt (Xt (Xl 2) 88) 123) 124 (Xc (Xl 22) Xn))) (Yc (sIf (tCmp 6 (Xl 15) (Xg (.a (.sym 0)))) (Yc (sRaise 0 (Xc (eStr 132) (Xc (eList (Xc (Xl 22) Xn)) Xn))) Yn) Yn) (Yc (sRet (Xl 15)) Yn))))⟩
noncomputable def F101:FD:=⟨101,[2,22,32],[],(Yc (sAsg 41 (Xm (Xl 2) 48 (Xc (Xl 22) Xn))) (Yc (sIf (tE (Xa (Xg (.a (.blt 2))) (Xc (Xl 41) (Xc (Xg (.a (.cls 6))) Xn)))) (Yc (sIf (tNot (tE (Xa (Xg (.a (.fn 17))) (Xc (Xa (Xg (.a (.blt 0))) (Xc (Xl 32) Xn)) (Xc (Xt (Xl 41) 12) (Xc (Xt (Xl 41) 13) Xn)))))) (Yc (sExpr (Xm (Xl 2) 34 (Xc (Xl 41) (Xc (Xa (Xg (.a (.blt 0))) (Xc (Xl 32) Xn)) Xn)))) Yn) Yn) (Yc (sExpr (Xm (Xl 2) 117 (Xc (Xm (Xl 41) 14 (Xc (Xt (Xl 2) 88) (Xc (Xl 32) Xn))) Xn))) Yn)) (Yc (sIf (tE (Xa (Xg (.a (.blt 2))) (Xc (Xl 41) (Xc (Xg (.a (.cls 8))) Xn)))) (Yc (sExpr (Xm (Xl 41) 126 (Xc (Xl 2) (Xc (Xl 32) Xn)))) Yn) (Yc (sIf (tE (Xa (Xg (.a (.fn 86))) (Xc (Xl 41) (Xc (eStr 135) Xn)))) (Yc (sExpr (Xm (Xl 2) 136 (Xc (Xl 41) (Xc (Xl 32) Xn)))) Yn) (Yc (sRaise 0 (Xc (eStr 137) (Xc (eList (Xc (Xl 22) Xn)) Xn))) Yn)) Yn)) Yn)) Yn))⟩
noncomputable def F102:FD:=⟨102,[2,41,32],[],(Yc (sAsg 138 (Xa (Xg (.a (.fn 15))) (Xc (Xt (Xl 41) 6) Xn))) (Yc (sIf (tOr (tCmp 6 (Xl 138) eNone) (tOr (tCmp 0 (Xl 138) (eList Xn)) tFalse)) (Yc (sRaise 0 (Xc (eStr 137) (Xc (eList (Xc (Xl 41) Xn)) Xn))) Yn) Yn) (Yc (sAsg 92 (Xm (Xt (Xl 2) 72) 92 Xn)) (Yc (sExpr (Xa (Xg (.a (.fn 46))) (Xc (Xt (Xl 2) 72) (Xc (Xa (Xg (.a (.fn 44))) (Xc (Xj (Xl 138) (Xi 0)) (Xc (Xl 41) Xn))) (Xc (Xl 32) (Xc (Xl 41) Xn)))))) (Yc (sExpr (Xm (Xl 2) 129 (Xc (Xa (Xg (.a (.cls 23))) (Xc (eSlc (Xl 138) (Xi 1) eNone) (Xc (Xl 92) Xn))) Xn))) Yn)))))⟩
noncomputable def F103:FD:=⟨103,[2,98],[],(Yc (sWhile (tCmp 4 (Xa (Xg (.a (.blt 0))) (Xc (Xt (Xl 2) 110) Xn)) (Xt (Xl 2) 111)) (Yc (sIf (tE (Xm (Xj (Xt (Xl 2) 110) (eNeg (Xi 1))) 142 (Xc (Xl 2) (Xc (Xl 98) Xn)))) (Yc (sRet eNone) Yn) Yn) (Yc (sExpr (Xm (Xt (Xl 2) 110) 94 Xn)) Yn))) (Yc (sIf (tCmp 0 (Xj (Xl 98) (Xi 0)) (Xg (.a (.str 144)))) (Yc (sRaise 0 (Xc (Xj (Xl 98) (Xi 1)) (Xc (Xj (Xl 98) (Xi 2)) Xn))) Yn) Yn) (Yc (sRaise 17 (Xc (Xj (Xl 98) (Xi 1)) (Xc (Xj (Xl 98) (Xi 2)) Xn))) Yn)))⟩
noncomputable def F104:FD:=⟨104,[2,97,70],[],(Yc (sAsg 98 (eTup (Xc (Xg (.a (.str 147))) (Xc (Xl 97) (Xc (Xl 70) Xn))))) (Yc (sIf (tNot (tE (Xa (Xg (.a (.blt 4))) (Xc (eComp (Xm (Xl 114) 149 (Xc (Xl 2) (Xc (Xl 98) Xn))) (.one 114) (Xt (Xl 2) 110) [98,2]) Xn)))) (Yc (sRaise 0 (Xc (eStr 150) (Xc (eList (Xc (Xl 97) (Xc (Xl 70) Xn))) Xn))) Yn) Yn) (Yc (sExpr (Xm (Xl 2) 142 (Xc (Xl 98) Xn))) Yn)))⟩
noncomputable def F106:FD:=⟨106,[2],[],(Yc (sIf (tCmp 5 (Xt (Xl 2) 112) (Xt (Xl 2) 109)) (Yc sStuck Yn) Yn) (Yc (Yz (Xl 2) 112 (eBin 0 (Xt (Xl 2) 112) (Xi 1))) (Yc (sTryE (Yc (sExpr (Xm (Xj (Xt (Xl 2) 110) (eNeg (Xi 1))) 152 (Xc (Xl 2) Xn))) Yn) (hCons 0 153 (Yc (sExpr (Xm (Xl 2) 142 (Xc (eTup (Xc (Xg (.a (.str 144))) (Xc (Xt (Xl 153) 3) (Xc (Xt (Xl 153) 4) Xn)))) Xn))) Yn) (hCons 17 154 (Yc (sExpr (Xm (Xl 2) 142 (Xc (eTup (Xc (Xg (.a (.str 147))) (Xc (Xt (Xl 154) 97) (Xc (Xt (Xl 154) 70) Xn)))) Xn))) Yn) hNil))) Yn)))⟩
noncomputable def F107:FD:=⟨107,[2,114],[],(Yc (sAsgT [111,92] (eTup (Xc (Xt (Xl 2) 111) (Xc (Xm (Xt (Xl 2) 72) 92 Xn) Xn)))) (Yc (Yz (Xl 2) 111 (Xa (Xg (.a (.blt 0))) (Xc (Xt (Xl 2) 110) Xn))) (Yc (sAsg 155 (Xt (Xl 2) 111)) (Yc (sExpr (Xm (Xl 2) 129 (Xc (Xl 114) Xn))) (Yc (sTryF (Yc (sWhile (tCmp 4 (Xa (Xg (.a (.blt 0))) (Xc (Xt (Xl 2) 110) Xn)) (Xl 155)) (Yc (sExpr (Xm (Xl 2) 152 Xn)) Yn)) Yn) (Yc (Yz (Xl 2) 111 (Xl 111)) (Yc (sExpr (Xm (Xt (Xl 2) 72) 104 (Xc (Xl 92) Xn))) Yn))) (Yc (sRet (Xt (Xl 2) 70)) Yn))))))⟩
noncomputable def F108:FD:=⟨108,[2,99],[],(Yc (sRet (Xm (Xl 2) 156 (Xc (Xa (Xg (.a (.cls 19))) (Xc (Xl 99) Xn)) Xn))) Yn)⟩
noncomputable def F109:FD:=⟨109,[2,41,32],[],(Yc (sRet (Xm (Xl 2) 156 (Xc (Xa (Xg (.a (.cls 20))) (Xc (Xl 41) (Xc (Xl 32) Xn))) Xn))) Yn)⟩
noncomputable def F117:FD:=⟨117,[33,32],[],(Yc (sExpr (Xm (Xl 33) 101 (Xc (Xj (Xl 32) (Xi 0)) (Xc (eSlc (Xl 32) (Xi 1) eNone) Xn)))) Yn)⟩
noncomputable def F118:FD:=⟨118,[33,22],[],(Yc (sAsg 15 (Xa (Xg (.a (.fn 15))) (Xc (Xl 22) Xn))) (Yc (sIf (tCmp 6 (Xl 15) eNone) (Yc (sRaise 0 (Xc (eStr 121) (Xc (eList (Xc (Xm (Xt (Xl 33) 88) 3 (Xc (eStr 122) Xn)) (Xc (Xl 22) Xn))) Xn))) Yn) Yn) (Yc (sRet (Xl 15)) Yn)))⟩
noncomputable def F119:FD:=⟨119,[33,32],[],(Yc (sIf (tCmp 0 (Xa (Xg (.a (.blt 0))) (Xc (Xl 32) Xn)) (Xi 1)) (Yc (sAsg 32 (eBin 0 (Xa (Xg (.a (.fn 118))) (Xc (Xl 33) (Xc (Xj (Xl 32) (Xi 0)) Xn))) (eList (Xc (Xg (.a (.sym 0))) Xn)))) Yn) Yn) (Yc (sIf (tCmp 2 (Xa (Xg (.a (.blt 0))) (Xc (Xl 32) Xn)) (Xi 2)) (Yc (sRaise 0 (Xc (eStr 121) (Xc (eList (Xc (Xm (Xt (Xl 33) 88) 3 (Xc (eStr 160) Xn)) (Xc (Xg (.a (.sym 0))) Xn))) Xn))) Yn) Yn) (Yc (sExpr (Xm (Xl 33) 101 (Xc (Xj (Xl 32) (Xi 0)) (Xc (eBin 0 (eSlc (Xl 32) (Xi 1) (eNeg (Xi 1))) (Xa (Xg (.a (.fn 118))) (Xc (Xl 33) (Xc (Xj (Xl 32) (eNeg (Xi 1))) Xn)))) Xn)))) Yn)))⟩
noncomputable def F121:FD:=⟨121,[33,32],[],(Yc (sExpr (Xm (Xl 33) 147 (Xc (Xj (Xl 32) (Xi 0)) (Xc (Xj (Xl 32) (Xi 1)) Xn)))) Yn)⟩
noncomputable def F123:FD:=⟨123,[33,22],[],(Yc (sIf (tE (Xa (Xg (.a (.blt 2))) (Xc (Xl 22) (Xc (Xg (.a (.cls 5))) Xn)))) (Yc (sRet (Xa (Xg (.a (.blt 5))) (Xc (Xt (Xl 22) 9) Xn))) Yn) Yn) (Yc (sIf (tE (Xa (Xg (.a (.blt 2))) (Xc (Xl 22) (Xc (Xg (.a (.cls 4))) Xn)))) (Yc (sRet (Xa (Xg (.a (.blt 5))) (Xc (Xt (Xl 22) 7) Xn))) Yn) Yn) (Yc (sAsg 15 (Xa (Xg (.a (.fn 15))) (Xc (Xl 22) Xn))) (Yc (sIf (tCmp 6 (Xl 15) eNone) (Yc (sRaise 0 (Xc (eStr 121) (Xc (eList (Xc (Xm (Xt (Xl 33) 88) 3 (Xc (eStr 164) Xn)) (Xc (Xl 22) Xn))) Xn))) Yn) Yn) (Yc (sRet (Xl 15)) Yn)))))⟩
noncomputable def F124:FD:=⟨124,[2,41,52,165],[],(Yc (Yz (Xl 2) 41 (Xl 41)) (Yc (Yz (Xl 2) 52 (Xl 52)) (Yc (Yz (Xl 2) 165 (Xl 165)) (Yc (Yz (Xl 2) 15 (eList Xn)) (Yc (Yz (Xl 2) 103 (eBool false)) Yn)))))⟩
noncomputable def F125:FD:=⟨125,[2,33],[],(Yc (sIf (tE (Xt (Xl 2) 103)) (Yc (sExpr (Xm (Xt (Xl 2) 15) 25 (Xc (Xt (Xl 33) 70) Xn))) Yn) Yn) (Yc (sIf (tCmp 2 (Xa (Xg (.a (.blt 0))) (Xc (Xt (Xl 2) 15) Xn)) (Xa (Xg (.a (.blt 0))) (Xc (Xt (Xl 2) 52) Xn))) (Yc (Yz (Xl 2) 103 (eBool true)) (Yc (sExpr (Xm (Xl 33) 101 (Xc (Xt (Xl 2) 41) (Xc (eList (Xc (Xj (Xt (Xl 2) 52) (Xa (Xg (.a (.blt 0))) (Xc (Xt (Xl 2) 15) Xn))) Xn)) Xn)))) Yn)) (Yc (sExpr (Xm (Xl 33) 105 (Xc (eIte (tCmp 6 (Xt (Xl 2) 165) eNone) (Xa (Xg (.a (.fn 13))) (Xc (Xt (Xl 2) 15) Xn)) (Xt (Xl 2) 165)) Xn))) Yn)) Yn))⟩
noncomputable def F126:FD:=⟨126,[33,32],[],(Yc (sExpr (Xm (Xl 33) 129 (Xc (Xa (Xg (.a (.cls 26))) (Xc (Xj (Xl 32) (Xi 0)) (Xc (Xa (Xg (.a (.fn 123))) (Xc (Xl 33) (Xc (Xj (Xl 32) (Xi 1)) Xn))) (Xc eNone Xn)))) Xn))) Yn)⟩
noncomputable def F127:FD:=⟨127,[33,32],[],(Yc (sExpr (Xm (Xl 33) 129 (Xc (Xa (Xg (.a (.cls 26))) (Xc (Xj (Xl 32) (Xi 0)) (Xc (Xa (Xg (.a (.fn 123))) (Xc (Xl 33) (Xc (Xj (Xl 32) (Xi 1)) Xn))) (Xc (Xj (Xl 32) (Xi 1)) Xn)))) Xn))) Yn)⟩
noncomputable def F133:FD:=⟨133,[],[],(Yc (sAsg 89 (eList (Xc (eTup (Xc (eStr 168) (Xc (Xi 1) (Xc (Xg (.a (.int (.negSucc 0)))) (Xc (Xg (.a (.fn 117))) Xn))))) (Xc (eTup (Xc (eStr 101) (Xc (Xi 1) (Xc (Xg (.a (.int (.negSucc 0)))) (Xc (Xg (.a (.fn 119))) Xn))))) (Xc (eTup (Xc (eStr 170) (Xc (Xi 1) (Xc (Xi 2) (Xc (Xg (.a (.fn 120))) Xn))))) (Xc (eTup (Xc (eStr 147) (Xc (Xi 2) (Xc (Xi 2) (Xc (Xg (.a (.fn 121))) Xn))))) (Xc (eTup (Xc (eStr 144) (Xc (Xi 2) (Xc (Xi 2) (Xc (Xg (.a (.fn 122))) Xn))))) (Xc (eTup (Xc (eStr 172) (Xc (Xi 2) (Xc (Xi 2) (Xc (Xg (.a (.fn 126))) Xn))))) (Xc (eTup (Xc (eStr 173) (Xc (Xi 2) (Xc (Xi 2) (Xc (Xg (.a (.fn 127))) Xn))))) (Xc (eTup (Xc (eStr 174) (Xc (Xi 1) (Xc (Xi 2) (Xc (Xg (.a (.fn 131))) Xn))))) (Xc (eTup (Xc (eStr 175) (Xc (Xi 1) (Xc (Xi 2) (Xc (Xg (.a (.fn 132))) Xn))))) Xn))))))))))) (Yc (sRet (eComp (Xa (Xg (.a (.cls 9))) (Xc (Xl 11) (Xc (Xl 12) (Xc (Xl 13) (Xc (Xl 30) Xn))))) (.many [11,12,13,30]) (Xl 89) [])) Yn))⟩
noncomputable def F135:FD:=⟨135,[33,35],[],(Yc (sIf (tCmp 0 (Xa (Xg (.a (.blt 0))) (Xc (Xl 35) Xn)) (Xi 0)) (Yc (sExpr (Xm (Xl 33) 117 (Xc (Xg (.a (.sym 0))) Xn))) Yn) (Yc (sIf (tCmp 0 (Xa (Xg (.a (.blt 0))) (Xc (Xl 35) Xn)) (Xi 1)) (Yc (sExpr (Xm (Xl 33) 100 (Xc (Xj (Xl 35) (Xi 0)) Xn))) Yn) (Yc (sExpr (Xm (Xl 33) 129 (Xc (Xa (Xg (.a (.cls 22))) (Xc (Xl 35) Xn)) Xn))) Yn)) Yn)) Yn)⟩
noncomputable def F136:FD:=⟨136,[33,35],[],(Yc (sExpr (Xm (Xl 33) 117 (Xc (Xj (Xl 35) (Xi 0)) Xn))) Yn)⟩
noncomputable def F170:FD:=⟨170,[],[],(Yc (sAsg 89 (eList (Xc (eTup (Xc (eStr 179) (Xc (Xi 1) (Xc (Xi 1) (Xc (Xg (.a (.fn 136))) Xn))))) (Xc (eTup (Xc (eStr 41) (Xc (Xi 1) (Xc (Xi 1) (Xc (Xg (.a (.fn 136))) Xn))))) (Xc (eTup (Xc (eStr 180) (Xc (Xi 0) (Xc (Xg (.a (.int (.negSucc 0)))) (Xc (Xg (.a (.fn 135))) Xn))))) (Xc (eTup (Xc (eStr 181) (Xc (Xi 2) (Xc (Xg (.a (.int (.negSucc 0)))) (Xc (Xg (.a (.fn 139))) Xn))))) (Xc (eTup (Xc (eStr 183) (Xc (Xi 1) (Xc (Xg (.a (.int (.negSucc 0)))) (Xc (Xg (.a (.fn 140))) Xn))))) (Xc (eTup (Xc (eStr 185) (Xc (Xi 1) (Xc (Xg (.a (.int (.negSucc 0)))) (Xc (Xg (.a (.fn 141))) Xn))))) (Xc (eTup (Xc (eStr 187) (Xc (Xi 0) (Xc (Xg (.a (.int (.negSucc 0)))) (Xc (Xg (.a (.fn 144))) Xn))))) (Xc (eTup (Xc (eStr 188) (Xc (Xi 0) (Xc (Xg (.a (.int (.negSucc 0)))) (Xc (Xg (.a (.fn 148))) Xn))))) (Xc (eTup (Xc (eStr 190) (Xc (Xi 0) (Xc (Xg (.a (.int (.negSucc 0)))) (Xc (Xg (.a (.fn 149))) Xn))))) (Xc (eTup (Xc (eStr 192) (Xc (Xi 1) (Xc (Xg (.a (.int (.negSucc 0)))) (Xc (Xg (.a (.fn 152))) Xn))))) (Xc (eTup (Xc (eStr 194) (Xc (Xi 1) (Xc (Xg (.a (.int (.negSucc 0)))) (Xc (Xg (.a (.fn 155))) Xn))))) Xn))))))))))))) (Yc (sRet (eComp (Xa (Xg (.a (.cls 10))) (Xc (Xl 11) (Xc (Xl 12) (Xc (Xl 13) (Xc (Xl 30) Xn))))) (.many [11,12,13,30]) (Xl 89) [])) Yn))⟩
noncomputable def F171:FD:=⟨171,[],[],(Yc (sAsg 89 (eList (Xc (eTup (Xc (eStr 195) (Xc (Xi 0) (Xc (Xg (.a (.int (.negSucc 0)))) (Xc (Xg (.a (.fn 160))) Xn))))) (Xc (eTup (Xc (eStr 196) (Xc (Xi 0) (Xc (Xg (.a (.int (.negSucc 0)))) (Xc (Xg (.a (.fn 161))) Xn))))) (Xc (eTup (Xc (eStr 198) (Xc (Xi 1) (Xc (Xg (.a (.int (.negSucc 0)))) (Xc (Xg (.a (.fn 165))) Xn))))) (Xc (eTup (Xc (eStr 199) (Xc (Xi 1) (Xc (Xg (.a (.int (.negSucc 0)))) (Xc (Xg (.a (.fn 169))) Xn))))) Xn)))))) (Yc (sRet (eComp (Xa (Xg (.a (.cls 10))) (Xc (Xl 11) (Xc (Xl 12) (Xc (Xl 13) (Xc (Xl 30) Xn))))) (.many [11,12,13,30]) (Xl 89) [])) Yn))⟩
noncomputable def F172:FD:=⟨172,[2,201,92],[],(Yc (Yz (Xl 2) 201 (Xl 201)) (Yc (Yz (Xl 2) 92 (Xl 92)) (Yc (Yz (Xl 2) 97 eNone) Yn)))⟩
noncomputable def F173:FD:=⟨173,[2,33],[],(Yc (sIf (tCmp 6 (Xt (Xl 2) 97) eNone) (Yc (Yz (Xl 2) 97 (Xt (Xl 33) 70)) (Yc (sExpr (Xa (Xg (.a (.fn 135))) (Xc (Xl 33) (Xc (Xt (Xl 2) 201) Xn)))) Yn)) (Yc (sExpr (Xm (Xl 33) 105 (Xc (Xt (Xl 33) 70) Xn))) Yn)) Yn)⟩
noncomputable def F174:FD:=⟨174,[2,33,98],[],(Yc (sRet (eAnd (eCmp 7 (Xt (Xl 2) 97) eNone) (eAnd (eCmp 0 (Xj (Xl 98) (Xi 0)) (Xg (.a (.str 147)))) (Xa (Xg (.a (.fn 87))) (Xc (Xt (Xl 2) 97) (Xc (Xj (Xl 98) (Xi 1)) Xn)))))) Yn)⟩
noncomputable def F175:FD:=⟨175,[2,33,98],[],(Yc (sIf (tNot (tE (Xm (Xl 2) 149 (Xc (Xl 33) (Xc (Xl 98) Xn))))) (Yc (sRet (eBool false)) Yn) Yn) (Yc (sExpr (Xm (Xt (Xl 33) 72) 104 (Xc (Xt (Xl 2) 92) Xn))) (Yc (sExpr (Xm (Xl 33) 105 (Xc (Xj (Xl 98) (Xi 2)) Xn))) (Yc (sRet (eBool true)) Yn))))⟩
noncomputable def F176:FD:=⟨176,[33,35],[],(Yc (sExpr (Xm (Xl 33) 129 (Xc (Xa (Xg (.a (.cls 36))) (Xc (eSlc (Xl 35) (Xi 1) eNone) (Xc (Xm (Xt (Xl 33) 72) 92 Xn) Xn))) Xn))) (Yc (sExpr (Xm (Xl 33) 100 (Xc (Xj (Xl 35) (Xi 0)) Xn))) Yn))⟩
noncomputable def F189:FD:=⟨189,[],[],(Yc (sAsg 89 (eList (Xc (eTup (Xc (eStr 204) (Xc (Xi 1) (Xc (Xg (.a (.int (.negSucc 0)))) (Xc (Xg (.a (.fn 176))) Xn))))) (Xc (eTup (Xc (eStr 205) (Xc (Xi 1) (Xc (Xg (.a (.int (.negSucc 0)))) (Xc (Xg (.a (.fn 180))) Xn))))) (Xc (eTup (Xc (eStr 207) (Xc (Xi 2) (Xc (Xg (.a (.int (.negSucc 0)))) (Xc (Xg (.a (.fn 187))) Xn))))) (Xc (eTup (Xc (eStr 209) (Xc (Xi 0) (Xc (Xg (.a (.int (.negSucc 0)))) (Xc (Xg (.a (.fn 188))) Xn))))) Xn)))))) (Yc (sRet (eComp (Xa (Xg (.a (.cls 10))) (Xc (Xl 11) (Xc (Xl 12) (Xc (Xl 13) (Xc (Xl 30) Xn))))) (.many [11,12,13,30]) (Xl 89) [])) Yn))⟩
noncomputable def F199:FD:=⟨199,[2],[],(Yc (Yz (Xl 2) 211 (Xa (Xg (.a (.cls 40))) Xn)) (Yc (Yz (Xl 2) 123 (Xa (Xg (.a (.cls 11))) Xn)) (Yc (Yz (Xl 2) 81 (Xa (Xg (.a (.cls 13))) Xn)) (Yc (Yz (Xl 2) 215 (Xa (Xg (.a (.cls 14))) Xn)) (Yc (Yz (Xl 2) 217 eNone) (Yc (Yz (Xl 2) 33 eNone) (Yc (Yz (Xl 2) 218 (Xi 0)) Yn)))))))⟩
noncomputable def F200:FD:=⟨200,[2,11],[],(Yc (sRet (Xm (Xt (Xl 2) 211) 219 (Xc (Xl 11) Xn))) Yn)⟩
noncomputable def F201:FD:=⟨201,[2],[],(Yc (sIf (tOr (tCmp 6 (Xt (Xl 2) 217) eNone) (tOr (tCmp 6 (Xt (Xt (Xl 2) 217) 220) eNone) tFalse)) (Yc (sRet (Xt (Xl 2) 215)) Yn) Yn) (Yc (sRet (Xt (Xt (Xl 2) 217) 220)) Yn))⟩
noncomputable def F203:FD:=⟨203,[2,38],[],(Yc (sFor (.one 41) (Xl 38) (Yc (sExpr (Xm (Xt (Xl 2) 123) 221 (Xc (Xm (Xl 2) 3 (Xc (Xt (Xl 41) 11) Xn)) (Xc (Xl 41) Xn)))) Yn)) Yn)⟩
noncomputable def F206:FD:=⟨206,[22],[],(Yc (sIf (tE (Xa (Xg (.a (.blt 2))) (Xc (Xl 22) (Xc (Xg (.a (.cls 2))) Xn)))) (Yc (sRet (Xt (Xl 22) 11)) Yn) Yn) (Yc (sIf (tE (Xa (Xg (.a (.blt 2))) (Xc (Xl 22) (Xc (Xg (.a (.cls 3))) Xn)))) (Yc (sAsg 222 (Xa (Xg (.a (.fn 15))) (Xc (Xl 22) Xn))) (Yc (sRet (eIte (tAnd (tE (Xa (Xg (.a (.blt 2))) (Xc (Xj (Xl 222) (Xi 0)) (Xc (Xg (.a (.cls 2))) Xn)))) (tAnd (tCmp 0 (Xt (Xj (Xl 222) (Xi 0)) 11) (eStr 135)) tTrue)) (eStr 135) (eComp (Xa (Xg (.a (.fn 206))) (Xc (Xl 106) Xn)) (.one 106) (Xl 222) []))) Yn)) Yn) (Yc (sRet (Xl 22)) Yn)))⟩
noncomputable def F208:FD:=⟨208,[224,78],[],(Yc (sExpr (Xm (Xt (Xl 224) 33) 225 (Xc (Xj (Xl 78) (Xi 0)) (Xc (eSlc (Xl 78) (Xi 1) eNone) Xn)))) (Yc (sRet (Xm (Xt (Xl 224) 33) 225 (Xc (Xj (Xl 78) (Xi 0)) (Xc (eSlc (Xl 78) (Xi 1) eNone) Xn)))) Yn))⟩
noncomputable def F209:FD:=⟨209,[228,226],[],(Yc (sRet (Xj (eList (Xc (Xa (Xg (.a (.fn 13))) (Xc (Xl 226) Xn)) (Xc (Xa (Xg (.a (.cls 5))) (Xc (Xa (Xg (.a (.blt 5))) (Xc (Xl 226) Xn)) Xn)) (Xc (Xa (Xg (.a (.cls 4))) (Xc (Xa (Xg (.a (.blt 5))) (Xc (Xl 226) Xn)) Xn)) Xn)))) (Xa (Xg (.a (.fn 205))) (Xc (Xl 228) (Xc (Xi 3) Xn))))) Yn)⟩
noncomputable def F210:FD:=⟨210,[229,99],[],(Yc (sTryE (Yc (sRet (eList (Xc (eStr 70) (Xc (Xa (Xg (.a (.fn 206))) (Xc (Xm (Xl 229) 170 (Xc (Xl 99) Xn)) Xn)) Xn)))) Yn) (hCons 0 153 (Yc (sRet (eList (Xc (Xt (Xl 153) 3) (Xc (eComp (Xa (Xg (.a (.fn 206))) (Xc (Xl 106) Xn)) (.one 106) (Xt (Xl 153) 4) []) Xn)))) Yn) hNil)) Yn)⟩
noncomputable def F211:FD:=⟨211,[230,226,231],[],(Yc (sIf (tCmp 8 (Xl 230) (eTup (Xc (Xi 0) (Xc (Xi 2) Xn)))) (Yc (sExpr (Xm (Xl 231) 25 (Xc (Xa (Xg (.a (.blt 5))) (Xc (Xl 226) Xn)) Xn))) (Yc (sRet (eList (Xc (eStr 70) (Xc (eIte (tCmp 1 (Xl 226) (eList Xn)) (Xa (Xg (.a (.blt 5))) (Xc (Xl 226) Xn)) (eStr 0)) Xn)))) Yn)) Yn) (Yc (sIf (tCmp 0 (Xl 230) (Xi 1)) (Yc (sIf (tCmp 0 (Xa (Xg (.a (.blt 0))) (Xc (Xl 226) Xn)) (Xi 0)) (Yc (sRet (eList (Xc (eStr 69) (Xc (eList (Xc (eStr 135) (Xc (Xi 0) Xn))) Xn)))) Yn) Yn) (Yc (sRet (eList (Xc (eStr 70) (Xc (eList (Xc (Xj (Xl 226) (Xi 0)) (Xc (eIte (tCmp 1 (eSlc (Xl 226) (Xi 1) eNone) (eList Xn)) (Xa (Xg (.a (.blt 5))) (Xc (eSlc (Xl 226) (Xi 1) eNone) Xn)) (eStr 0)) Xn))) Xn)))) Yn)) Yn) (Yc (sRet (eIte (tCmp 0 (Xl 230) (Xi 3)) (eList (Xc (eStr 137) (Xc (eList (Xc (Xi 7) Xn)) Xn))) (eList (Xc (eStr 132) (Xc (eList (Xc (eStr 232) Xn)) Xn))))) Yn)))⟩
noncomputable def F212:FD:=⟨212,[224,230],[],(Yc (sAsgT [233,3] (eTup (Xc (Xm (Xl 224) 3 (Xc (eStr 179) Xn)) (Xc (Xt (Xl 224) 3) Xn)))) (Yc (sIf (tCmp 0 (Xl 230) (Xi 1)) (Yc (sAsg 201 (Xa (Xg (.a (.fn 13))) (Xc (eList (Xc (Xa (Xl 3) (Xc (eStr 234) Xn)) (Xc (Xa (Xl 3) (Xc (eStr 235) Xn)) (Xc (Xa (Xl 3) (Xc (eStr 236) Xn)) Xn)))) Xn))) (Yc (sRet (Xa (Xg (.a (.fn 13))) (Xc (eList (Xc (Xl 233) (Xc (Xa (Xg (.a (.fn 13))) (Xc (eList (Xc (Xa (Xl 3) (Xc (eStr 135) Xn)) (Xc (Xa (Xg (.a (.fn 13))) (Xc (eList (Xc (Xa (Xl 3) (Xc (eStr 235) Xn)) (Xc (Xa (Xl 3) (Xc (eStr 62) Xn)) (Xc (Xa (Xl 3) (Xc (eStr 236) Xn)) Xn)))) Xn)) (Xc (Xl 201) Xn)))) Xn)) Xn))) Xn))) Yn)) Yn) (Yc (sRet (Xj (eList (Xc (Xa (Xl 3) (Xc (eStr 237) Xn)) (Xc eNone (Xc (Xa (Xg (.a (.fn 13))) (Xc (eList (Xc (Xl 233) (Xc (Xa (Xl 3) (Xc (eStr 238) Xn)) Xn))) Xn)) (Xc (Xi 7) (Xc (Xa (Xg (.a (.fn 13))) (Xc (eList (Xc (Xl 233) (Xc (Xa (Xl 3) (Xc (eStr 232) Xn)) Xn))) Xn)) Xn)))))) (Xl 230))) Yn)))⟩
noncomputable def F213:FD:=⟨213,[224,78],[],(Yc (sRet (Xa (Xg (.a (.fn 13))) (Xc (Xl 78) Xn))) Yn)⟩
noncomputable def F214:FD:=⟨214,[224,231],[],(Yc (sExpr (Xm (Xl 224) 239 (Xc (eBin 0 (eBin 0 (eBin 0 (Xa (Xg (.a (.fn 170))) Xn) (Xa (Xg (.a (.fn 171))) Xn)) (Xa (Xg (.a (.fn 189))) Xn)) (Xa (Xg (.a (.fn 133))) Xn)) Xn))) (Yc (sAsg 244 (eTup (Xc (eTup (Xc (eStr 238) (Xc (Xi 0) (Xc (eNeg (Xi 1)) (Xc (Xa (Xg (.a (.fn 207))) (Xc (Xl 231) Xn)) Xn))))) (Xc (eTup (Xc (eStr 234) (Xc (Xi 2) (Xc (Xi 2) (Xc (Xg (.a (.fn 213))) Xn))))) (Xc (eTup (Xc (eStr 247) (Xc (Xi 1) (Xc (eNeg (Xi 1)) (Xc (Xg (.a (.fn 208))) Xn))))) Xn))))) (Yc (sForE (.many [10,93]) (Xl 244) (Yc (sExpr (Xm (Xt (Xl 224) 123) 221 (Xc (Xm (Xl 224) 3 (Xc (Xj (Xl 93) (Xi 0)) Xn)) (Xc (Xa (Xg (.a (.cls 6))) (Xc (Xl 10) (Xc (Xj (Xl 93) (Xi 0)) (Xc (Xj (Xl 93) (Xi 1)) (Xc (Xj (Xl 93) (Xi 2)) (Xc (Xj (Xl 93) (Xi 3)) Xn)))))) Xn)))) Yn)) (Yc (sExpr (Xm (Xt (Xl 224) 81) 87 (Xc (Xt (Xm (Xl 224) 3 (Xc (eStr 237) Xn)) 10) (Xc (Xm (Xt (Xl 224) 123) 48 (Xc (Xm (Xl 224) 3 (Xc (eStr 238) Xn)) Xn)) Xn)))) Yn))))⟩
noncomputable def F215:FD:=⟨215,[224,228,230,226,250],[],(Yc (sAsgT [41,3] (eTup (Xc (Xa (Xg (.a (.fn 212))) (Xc (Xl 224) (Xc (Xl 230) Xn))) (Xc (Xt (Xl 224) 3) Xn)))) (Yc (sIf (tCmp 0 (Xl 250) (Xi 0)) (Yc (sRet (eTup (Xc (Xa (Xg (.a (.fn 13))) (Xc (eBin 0 (eList (Xc (Xa (Xl 3) (Xc (eStr 168) Xn)) (Xc (Xl 41) Xn))) (Xl 226)) Xn)) (Xc (eList (Xc (Xl 226) Xn)) Xn)))) Yn) Yn) (Yc (sIf (tCmp 0 (Xl 250) (Xi 1)) (Yc (sAsg 251 (Xa (Xg (.a (.fn 205))) (Xc (Xl 228) (Xc (eBin 0 (Xa (Xg (.a (.blt 0))) (Xc (Xl 226) Xn)) (Xi 1)) Xn)))) (Yc (sAsg 252 (Xa (Xg (.a (.fn 13))) (Xc (eList (Xc (Xa (Xl 3) (Xc (eStr 179) Xn)) (Xc (Xa (Xg (.a (.fn 13))) (Xc (eSlc (Xl 226) (Xl 251) eNone) Xn)) Xn))) Xn))) (Yc (sRet (eTup (Xc (Xa (Xg (.a (.fn 13))) (Xc (eBin 0 (eBin 0 (eList (Xc (Xa (Xl 3) (Xc (eStr 101) Xn)) (Xc (Xl 41) Xn))) (eSlc (Xl 226) eNone (Xl 251))) (eList (Xc (Xl 252) Xn))) Xn)) (Xc (eList (Xc (Xl 226) Xn)) Xn)))) Yn))) Yn) (Yc (sIf (tCmp 0 (Xl 250) (Xi 2)) (Yc (sRet (eTup (Xc (Xa (Xg (.a (.fn 13))) (Xc (eBin 0 (eList (Xc (Xa (Xl 3) (Xc (eStr 247) Xn)) (Xc (Xl 41) Xn))) (Xl 226)) Xn)) (Xc (eList (Xc (Xl 226) (Xc (Xl 226) Xn))) Xn)))) Yn) Yn) (Yc (sAsg 253 (eIte (tCmp 0 (Xl 250) (Xi 3)) (eStr 172) (eStr 173))) (Yc (sAsg 9 (Xa (Xg (.a (.fn 209))) (Xc (Xl 228) (Xc (Xl 226) Xn)))) (Yc (sRet (eTup (Xc (Xa (Xg (.a (.fn 13))) (Xc (eList (Xc (Xa (Xl 3) (Xc (Xl 253) Xn)) (Xc (Xl 41) (Xc (Xa (Xg (.a (.fn 13))) (Xc (eList (Xc (Xa (Xl 3) (Xc (eStr 179) Xn)) (Xc (Xl 9) Xn))) Xn)) Xn)))) Xn)) (Xc (eComp (eList (Xc (Xl 106) Xn)) (.one 106) (Xl 226) []) Xn)))) Yn)))))))⟩
noncomputable def F216:FD:=⟨216,[256],[],(Yc (sAsg 228 (Xa (Xg (.a (.fn 204))) (Xc (Xl 256) Xn))) (Yc (sAsgT [231,257] (eTup (Xc (eList Xn) (Xc (eList Xn) Xn)))) (Yc (sAsg 224 (Xa (Xg (.a (.cls 41))) Xn)) (Yc (sAsg 229 (Xa (Xg (.a (.cls 25))) (Xc (Xl 224) (Xc (Xi 100000) Xn)))) (Yc (sExpr (Xa (Xg (.a (.fn 214))) (Xc (Xl 224) (Xc (Xl 231) Xn)))) (Yc (sFor (.one 261) (Xa (Xg (.a (.blt 1))) (Xc (Xi 2) Xn)) (Yc (sAsgT [230,250] (eTup (Xc (Xa (Xg (.a (.fn 205))) (Xc (Xl 228) (Xc (Xi 5) Xn))) (Xc (Xa (Xg (.a (.fn 205))) (Xc (Xl 228) (Xc (Xi 5) Xn))) Xn)))) (Yc (sAsg 226 (eComp (eBin 0 (Xi 1) (Xa (Xg (.a (.fn 205))) (Xc (Xl 228) (Xc (Xi 90) Xn)))) (.one 21) (Xa (Xg (.a (.blt 1))) (Xc (Xa (Xg (.a (.fn 205))) (Xc (Xl 228) (Xc (Xi 4) Xn))) Xn)) [228])) (Yc (sAsgT [99,244] (Xa (Xg (.a (.fn 215))) (Xc (Xl 224) (Xc (Xl 228) (Xc (Xl 230) (Xc (Xl 226) (Xc (Xl 250) Xn))))))) (Yc (sAsgT [15,263] (eTup (Xc (eList Xn) (Xc eNone Xn)))) (Yc (sFor (.one 93) (Xl 244) (Yc (sAsg 264 (Xa (Xg (.a (.fn 211))) (Xc (Xl 230) (Xc (Xl 93) (Xc (Xl 257) Xn))))) (Yc (sIf (tCmp 1 (Xj (Xl 264) (Xi 0)) (eStr 70)) (Yc (sAsg 263 (Xl 264)) (Yc sBreak Yn)) Yn) (Yc (sExpr (Xm (Xl 15) 25 (Xc (Xj (Xl 264) (Xi 1)) Xn))) Yn)))) (Yc (sIf (tCmp 6 (Xl 263) eNone) (Yc (sAsg 263 (eIte (tCmp 2 (Xl 250) (Xi 3)) (eList (Xc (eStr 70) (Xc (Xj (Xl 15) (eNeg (Xi 1))) Xn))) (eList (Xc (eStr 70) (Xc (eIte (tCmp 1 (Xl 15) (eList Xn)) (Xl 15) (eStr 0)) Xn))))) Yn) Yn) (Yc (sAsg 264 (Xa (Xg (.a (.fn 210))) (Xc (Xl 229) (Xc (Xl 99) Xn)))) (Yc (sIf (tAnd (tCmp 0 (Xl 250) (Xi 4)) (tAnd (tCmp 0 (Xj (Xl 263) (Xi 0)) (eStr 70)) tTrue)) (Yc (sIf (tOr (tCmp 1 (Xj (Xl 264) (Xi 0)) (eStr 70)) (tOr (tAnd (tE (Xa (Xg (.a (.blt 2))) (Xc (Xj (Xl 264) (Xi 1)) (Xc (Xg (.a (.blt 8))) Xn)))) (tAnd (tCmp 1 (Xj (Xl 264) (Xi 1)) (eStr 0)) tTrue)) tFalse)) (Yc (sRet (eBool false)) Yn) Yn) Yn) (Yc (sIf (tCmp 1 (Xl 264) (Xl 263)) (Yc (sRet (eBool false)) Yn) Yn) Yn)) (Yc (sIf (tOr (tCmp 1 (Xl 231) (Xl 257)) (tOr (tCmp 1 (Xt (Xl 229) 110) (eList Xn)) (tOr (tCmp 1 (Xt (Xl 229) 111) (Xi 0)) tFalse))) (Yc (sRet (eBool false)) Yn) Yn) Yn)))))))))) (Yc (sAsg 10 (Xa (Xg (.a (.fn 205))) (Xc (Xl 228) (Xc (Xi 90) Xn)))) (Yc (sAsg 154 (Xa (Xg (.a (.fn 13))) (Xc (eList (Xc (Xm (Xl 224) 3 (Xc (eStr 147) Xn)) (Xc (Xi 5) (Xc (Xl 10) Xn)))) Xn))) (Yc (sAsg 268 (Xa (Xg (.a (.fn 13))) (Xc (eList (Xc (Xm (Xl 224) 3 (Xc (eStr 179) Xn)) (Xc (Xa (Xg (.a (.fn 13))) (Xc (eList (Xc (Xm (Xl 224) 3 (Xc (eStr 135) Xn)) (Xc (Xg (.a (.sym 0))) (Xc (Xl 154) Xn)))) Xn)) Xn))) Xn))) (Yc (sAsg 269 (Xa (Xg (.a (.fn 13))) (Xc (eList (Xc (Xm (Xl 224) 3 (Xc (eStr 204) Xn)) (Xc (Xi 5) (Xc (Xa (Xg (.a (.fn 13))) (Xc (eList (Xc (Xm (Xl 224) 3 (Xc (eStr 247) Xn)) (Xc (Xl 268) Xn))) Xn)) (Xc (Xi 1) Xn))))) Xn))) (Yc (sRet (eAnd (eCmp 0 (Xa (Xg (.a (.fn 210))) (Xc (Xl 229) (Xc (Xl 269) Xn))) (eList (Xc (eStr 70) (Xc (Xl 10) Xn)))) (eAnd (eCmp 0 (Xt (Xl 229) 110) (eList Xn)) (eCmp 0 (Xt (Xl 229) 111) (Xi 0))))) Yn)))))))))))⟩
noncomputable def FDeed:FD:=⟨231,[224,78],[],(Yc (sExpr (Xm (Xl 231) 25 (Xc (Xa (Xg (.a (.blt 5))) (Xc (Xl 78) Xn)) Xn))) (Yc (sRet (Xa (Xg (.a (.fn 13))) (Xc (Xl 78) Xn))) Yn))⟩
noncomputable def F190:FD:=⟨270,[2],[],(Yc (Yz (Xl 2) nRows (eList (Xc (Xg (.a (.sym 0))) (Xc (Xg (.a (.sym 1))) Xn)))) (Yc (Yz (Xl 2) nNames (eDictS (Xg (.a (.sym 0))) (Xg (.a (.sym 1))))) Yn))⟩
noncomputable def fnT:TR FD:=(.node none (.node (some F1) (.node none (.node (some F7) (.node (some F15) (.node (some F31) (.node (some F63) (.node (some F127) .nil .nil) .nil) .nil) (.node (some F47) (.node (some F79) .nil .nil) (.node none (.node (some F175) .nil .nil) .nil))) (.node (some F23) (.node none (.node none (.node (some F135) .nil .nil) (.node (some F199) .nil .nil)) (.node (some F103) .nil .nil)) (.node (some F55) (.node (some F87) .nil (.node (some F215) .nil .nil)) (.node (some F119) .nil .nil)))) (.node none (.node none (.node none (.node (some F67) .nil .nil) .nil) (.node none (.node (some F83) .nil (.node (some F211) .nil .nil)) .nil)) (.node (some F27) (.node none (.node (some F75) .nil (.node (some F203) .nil .nil)) (.node (some F107) (.node (some F171) .nil .nil) .nil)) (.node none (.node (some F91) .nil .nil) (.node (some F123) .nil .nil))))) (.node none (.node (some F9) (.node (some F17) (.node (some F33) (.node (some F65) .nil .nil) (.node (some F97) .nil .nil)) (.node (some F49) (.node (some F81) .nil (.node (some F209) .nil .nil)) .nil)) (.node none (.node (some F41) (.node (some F73) .nil (.node (some F201) .nil .nil)) .nil) (.node none (.node (some F89) .nil .nil) (.node (some F121) .nil .nil)))) (.node (some F13) (.node (some F21) (.node none (.node (some F69) (.node (some F133) .nil .nil) .nil) (.node (some F101) .nil .nil)) (.node none (.node none .nil (.node (some F213) .nil .nil)) (.node (some F117) .nil .nil))) (.node (some F29) (.node (some F45) (.node (some F77) .nil .nil) (.node (some F109) (.node (some F173) .nil .nil) .nil)) (.node none (.node (some F93) .nil .nil) (.node (some F125) (.node (some F189) .nil .nil) .nil)))))) (.node none (.node none (.node (some F8) (.node none (.node none (.node (some F64) .nil .nil) (.node (some F96) .nil .nil)) (.node (some F48) (.node (some F80) .nil (.node (some F208) .nil .nil)) (.node none (.node (some F176) .nil .nil) .nil))) (.node (some F24) (.node (some F40) (.node (some F72) (.node (some F136) .nil .nil) (.node (some F200) .nil .nil)) (.node (some F104) .nil .nil)) (.node none (.node (some F88) .nil (.node (some F216) .nil .nil)) .nil))) (.node none (.node none (.node none .nil (.node (some F100) .nil .nil)) (.node none (.node (some F84) .nil (.node (some F212) .nil .nil)) .nil)) (.node (some F28) (.node (some F44) (.node (some F76) .nil .nil) (.node (some F108) (.node (some F172) .nil .nil) .nil)) (.node (some F60) (.node (some F92) .nil .nil) (.node (some F124) .nil .nil))))) (.node (some F6) (.node none (.node none (.node (some F34) (.node (some F66) .nil .nil) (.node (some F98) .nil .nil)) (.node none (.node (some F82) .nil (.node (some F210) .nil .nil)) .nil)) (.node none (.node none (.node (some F74) .nil .nil) (.node (some F106) (.node (some F170) .nil .nil) .nil)) (.node none (.node (some F90) .nil .nil) .nil))) (.node (some F14) (.node none (.node none (.node (some F70) .nil .nil) (.node (some F102) .nil .nil)) (.node (some F54) (.node (some F86) .nil (.node (some F214) .nil .nil)) (.node (some F118) .nil .nil))) (.node (some F30) (.node (some F46) (.node (some F78) .nil (.node (some F206) .nil .nil)) (.node none (.node (some F174) .nil .nil) .nil)) (.node (some F62) (.node (some F94) .nil .nil) (.node (some F126) (.node (some F190) .nil .nil) .nil)))))))
end
end Mine
end
section
open PySem renaming Expr→PX,Str→PS
open PySem PySem.W PySem.Calls PyProof.Rows
namespace Mine
section
theorem ff{P:Prop}(e:false=true):P:=Bool.noConfusion e
theorem brec{a b c:Bool}(e:@Bool.rec (fun _=>Bool) a b c=true):(c=false∧a=true)∨(c=true∧b=true):=match c with | false=>.inl ⟨rfl,e⟩ | true=>.inr ⟨rfl,e⟩
theorem brecT{b c:Bool}(e:@Bool.rec (fun _=>Bool) false b c=true):c=true∧b=true:=match c with | false=>ff e | true=>⟨rfl,e⟩
theorem brecF{a c:Bool}(e:@Bool.rec (fun _=>Bool) a false c=true):c=false∧a=true:=match c with | false=>⟨rfl,e⟩ | true=>ff e
theorem beqT{a b:Nat}(e:Nat.beq a b=true):a=b:=Nat.eq_of_beq_eq_true e
theorem beqF{a b:Nat}(e:Nat.beq a b=false):a≠b:=Nat.ne_of_beq_eq_false e
noncomputable def nmS(i:Nat):PS:=PySem.Str.ofString (names.getD i "")
inductive Ow where
 | free | obj (i p:Nat) | env | exn | it
structure Gh where
 own:Addr→Ow
 sg:Nat→Option Addr
 nu:Nat→Nat
 rho:Nat→Option Int
 pre:Nat→List (List Int)
 scr:Value
 obi:Option Nat
noncomputable def Gh.bs(γ:Gh):Nat:=(γ.pre 7).length
structure SA where
 K:Params→Frag
 fnA:Nat→Addr
 clA:Nat→Addr
 nilA:Addr
 teeA:Addr
 ntA:Addr
 ntC:Value
 clo:List (Addr × Obj)→Addr→Addr→Prop
noncomputable def bltV:Nat→Value
 | 0=>.builtin "len" | 1=>.type "range" | 2=>.builtin "isinstance" | 3=>.builtin "all" | 4=>.builtin "any" | 5=>.type "list" | 6=>.type "enumerate"
 | 7=>.type "int" | 8=>.type "str" | _=>.none
variable(Z:SA)
inductive VInt(z:Int)(rv:Value):Prop | mk (t:Tok):rv=.int z t→t≠0→VInt z rv
inductive VNum(γ:Gh)(i c:Nat)(rv:Value):Prop | mk (r:Int) (t:Tok):γ.rho i=some r→rv=.int (r + c) t→VNum γ i c rv
inductive VUpto(γ:Gh)(k:Nat)(rv:Value):Prop | mk (z:Int) (t:Tok):rv=.int z t→0≤z→z≤((γ.bs + k:Nat):Int)→γ.bs≤50000→VUpto γ k rv
inductive VStr(s:Nat)(rv:Value):Prop | mk (t:Tok):rv=.str (nmS s) t→s < names.length→VStr s rv
inductive VSym(γ:Gh)(s:Nat)(rv:Value):Prop | mk (a:Addr):rv=.ref a→γ.sg s=some a→VSym γ s rv
inductive VSymnum(γ:Gh)(s:Nat)(rv:Value):Prop | mk (a:Addr) (t:Tok):γ.sg s=some a→rv=.int (γ.nu s) t→VSymnum γ s rv
inductive VScr(γ:Gh)(h:Heap)(rv:Value):Prop | mk (a:Addr) (ws:Array Value) (n:Nat):rv=.ref a→h.get? a=some ⟨.type "list",none,.seq ws n,#[]⟩→γ.own a=.free→ws.size≤63→(∀ w∈ws,∃ z t,w=.int z t)→VScr γ h rv
inductive VRng(γ:Gh)(h:Heap)(x y z:Int)(rv:Value):Prop | mk (a:Addr) (t u v:Tok):rv=.ref a→IsRange h a x y z t u v→γ.own a=.free→smallZ x=true→smallZ y=true→(z=1∨z=-1)→VRng γ h x y z rv
inductive VClo(γ:Gh)(h:Heap)(i:Nat)(rv:Value):Prop | mk (a la:Addr) (l:List (Addr × Obj)):rv=.ref a→Z.clo l a la→(∀ p∈l,h.get? p.1=some p.2∧γ.own p.1=.free)→γ.own la=.obj i 0→VClo γ h i rv
inductive VRef(γ:Gh)(i:Nat)(rv:Value):Prop | mk (a:Addr):rv=.ref a→γ.own a=.obj i 0→VRef γ i rv
inductive VObj(γ:Gh)(h:Heap)(c:Nat)(R:List Value→Prop)(rv:Value):Prop | mk (cd:CD) (a d:Addr) (m:PS→Option Value) (rvs:List Value):rv=.ref a→clT.get c=some cd →
   h.get? a=some ⟨.ref (Z.clA c),some d,.plain,#[]⟩→γ.own a=.free→γ.own d=.free→h.Ns d m→R rvs→cd.fields.map (fun x=>m (nmS x))=rvs.map some →
   (∀ y v,m y=some v→∃ x∈cd.fields,nmS x=y)→cd.kind≠2→VObj γ h c R rv
inductive VTup(γ:Gh)(h:Heap)(R:List Value→Prop)(rv:Value):Prop | mk (ws:List Value) (a:Addr) (n:Nat):rv=.ref a→h.get? a=some ⟨.type "tuple",none,.seq ws.toArray n,#[]⟩→γ.own a=.free→R ws→VTup γ h R rv
inductive VMet(γ:Gh)(h:Heap)(f:Nat)(R:Value→Prop)(rv:Value):Prop | mk (rs:Value) (a:Addr):rv=.ref a→h.get? a=some (methodObj (.ref (Z.fnA f)) rs)→γ.own a=.free→R rs→VMet γ h f R rv
inductive VExc(γ:Gh)(h:Heap)(c:Nat)(R:List Value→Prop)(rv:Value):Prop | mk (cd:CD) (a d:Addr) (ovs:Array Value) (m:PS→Option Value) (rvs:List Value):rv=.ref a→clT.get c=some cd→cd.kind=2 →
   h.get? a=some ⟨.ref (Z.clA c),some d,.fields ovs,#[]⟩→γ.own a=.exn→γ.own d=.free→h.Ns d m→R rvs→cd.fields.map (fun x=>m (nmS x))=rvs.map some→VExc γ h c R rv
inductive VCons(P:Value→Prop)(R:List Value→Prop)(rvs:List Value):Prop | mk (w:Value) (ws:List Value):rvs=w :: ws→P w→R ws→VCons P R rvs
noncomputable def CR(γ:Gh)(h:Heap)(c:C):Value→Prop:=@C.rec (fun _=>Value→Prop) (fun rv=>rv=.none) (fun b rv=>rv=.bool b) (fun z rv=>VInt z rv) (fun i c rv=>VNum γ i c rv) (fun k rv=>VUpto γ k rv) (fun s rv=>VStr s rv)
 (fun s rv=>VSym γ s rv) (fun s rv=>VSymnum γ s rv) (fun k rv=>rv=.ref (Z.fnA k)) (fun c rv=>rv=.ref (Z.clA c)) (fun b rv=>rv=bltV b) (fun i rv=>VClo Z γ h i rv) (fun x y z rv=>VRng γ h x y z rv) (fun rv=>VScr γ h rv) (fun rv=>handedIn rv=true) c
noncomputable def VR(γ:Gh)(h:Heap)(v:V):Value→Prop:=@V.rec (fun _=>Value→Prop) (fun _=>List Value→Prop) (CR Z γ h) (VRef γ) (fun c _ R rv=>VObj Z γ h c R rv) (fun _ R rv=>VTup γ h R rv) (fun _ f R rv=>VMet Z γ h f R rv) (fun c _ R rv=>VExc Z γ h c R rv) (fun ws=>ws=[]) (fun _ _ P R ws=>VCons P R ws) v
noncomputable def VRs(γ:Gh)(h:Heap)(v:List V):List Value→Prop:=@V.rec_1 (fun _=>Value→Prop) (fun _=>List Value→Prop) (CR Z γ h) (VRef γ) (fun c _ R rv=>VObj Z γ h c R rv) (fun _ R rv=>VTup γ h R rv) (fun _ f R rv=>VMet Z γ h f R rv) (fun c _ R rv=>VExc Z γ h c R rv) (fun ws=>ws=[]) (fun _ _ P R ws=>VCons P R ws) v
section
variable{Z}{γ:Gh}{h:Heap}
theorem VR.none:VR Z γ h (.a .none) .none:=rfl
theorem VR.bool(b:Bool):VR Z γ h (.a (.bool b)) (.bool b):=rfl
theorem VR.int(z:Int)(t:Tok)(e:t≠0):VR Z γ h (.a (.int z)) (.int z t):=VInt.mk t rfl e
theorem VR.num{i c:Nat}{r z:Int}(t:Tok)(e:γ.rho i=some r)(q:z=r + c):VR Z γ h (.a (.num i c)) (.int z t):=VNum.mk r t e (by rw [q])
theorem VR.upto{k:Nat}{z:Int}(t:Tok)(a:0≤z)(b:z≤((γ.bs + k:Nat):Int))(c:γ.bs≤50000):VR Z γ h (.a (.upto k)) (.int z t):=VUpto.mk z t rfl a b c
theorem VR.str{s:Nat}{x:PS}(t:Tok)(e:s < names.length)(q:x=nmS s):VR Z γ h (.a (.str s)) (.str x t):=VStr.mk t (by rw [q]) e
theorem VR.sym{s:Nat}{a:Addr}(e:γ.sg s=some a):VR Z γ h (.a (.sym s)) (.ref a):=VSym.mk a rfl e
theorem VR.symnum{s:Nat}{a:Addr}{z:Int}(t:Tok)(e:γ.sg s=some a)(q:z=γ.nu s):VR Z γ h (.a (.symnum s)) (.int z t):=VSymnum.mk a t e (by rw [q])
theorem VR.fn{k:Nat}{a:Addr}(e:a=Z.fnA k):VR Z γ h (.a (.fn k)) (.ref a):=congrArg Value.ref e
theorem VR.scr{a:Addr}{ws:Array Value}{n:Nat}(e:h.get? a=some ⟨.type "list",Option.none,.seq ws n,#[]⟩)(f:γ.own a=.free)(g:ws.size≤63)(i:∀ w∈ws,∃ z t,w=.int z t):VR Z γ h (.a .scr) (.ref a):=VScr.mk a ws n rfl e f g i
theorem VR.unk(v:Value)(e:handedIn v=true):VR Z γ h (.a .unk) v:=e
theorem VR.ref{i:Nat}{a:Addr}(e:γ.own a=.obj i 0):VR Z γ h (.ref i) (.ref a):=VRef.mk a rfl e
theorem VR.obj{c:Nat}{cd:CD}{fs:List V}{a d:Addr}{m:PS→Option Value}{rvs:List Value}(x1:clT.get c=some cd)(x2:h.get? a=some ⟨.ref (Z.clA c),some d,.plain,#[]⟩)(x3:γ.own a=.free)(x4:γ.own d=.free)(x5:h.Ns d m)(x6:VRs Z γ h fs rvs)(x7:cd.fields.map (fun x=>m (nmS x))=rvs.map some)
  (x8:∀ y v,m y=some v→∃ x∈cd.fields,nmS x=y) (x9:cd.kind≠2):VR Z γ h (.obj c fs) (.ref a):=VObj.mk cd a d m rvs rfl x1 x2 x3 x4 x5 x6 x7 x8 x9
theorem VR.tup{vs:List V}{ws:List Value}{a:Addr}{n:Nat}(e:h.get? a=some ⟨.type "tuple",Option.none,.seq ws.toArray n,#[]⟩)(f:γ.own a=.free)(r:VRs Z γ h vs ws):VR Z γ h (.tup vs) (.ref a):=VTup.mk ws a n rfl e f r
theorem VR.met{f:Nat}{v:V}{rs:Value}{a:Addr}(e:h.get? a=some (methodObj (.ref (Z.fnA f)) rs))(o:γ.own a=.free)(r:VR Z γ h v rs):VR Z γ h (.met v f) (.ref a):=VMet.mk rs a rfl e o r
theorem VR.rng{x y z:Int}{a:Addr}{t u v:Tok}(i:IsRange h a x y z t u v)(o:γ.own a=.free)(e1:smallZ x=true)(e2:smallZ y=true)(e3:z=1∨z=-1):VR Z γ h (.a (.rng x y z)) (.ref a):=VRng.mk a t u v rfl i o e1 e2 e3
theorem VR.clo{i:Nat}{a la:Addr}{l:List (Addr × Obj)}(c:Z.clo l a la)(p:∀ p∈l,h.get? p.1=some p.2∧γ.own p.1=.free)(o:γ.own la=.obj i 0):VR Z γ h (.a (.clo i)) (.ref a):=VClo.mk a la l rfl c p o
theorem VR.exc{c:Nat}{cd:CD}{fs:List V}{a d:Addr}{ovs:Array Value}{m:PS→Option Value}{rvs:List Value}(x1:clT.get c=some cd)(x2:cd.kind=2)(x3:h.get? a=some ⟨.ref (Z.clA c),some d,.fields ovs,#[]⟩)(x4:γ.own a=.exn)(x5:γ.own d=.free)(x6:h.Ns d m)(x7:VRs Z γ h fs rvs)
  (x8:cd.fields.map (fun x=>m (nmS x))=rvs.map some):VR Z γ h (.exc c fs) (.ref a):=VExc.mk cd a d ovs m rvs rfl x1 x2 x3 x4 x5 x6 x7 x8
theorem VRs.nil:VRs Z γ h [] []:=rfl
theorem VRs.cons{v:V}{vs:List V}{w:Value}{ws:List Value}(x:VR Z γ h v w)(y:VRs Z γ h vs ws):VRs Z γ h (v :: vs) (w :: ws):=VCons.mk w ws rfl x y
theorem VR.objI{c:Nat}{fs:List V}{rv:Value}(x:VR Z γ h (.obj c fs) rv):VObj Z γ h c (VRs Z γ h fs) rv:=x
theorem VR.tupI{vs:List V}{rv:Value}(x:VR Z γ h (.tup vs) rv):VTup γ h (VRs Z γ h vs) rv:=x
theorem VR.metI{f:Nat}{v:V}{rv:Value}(x:VR Z γ h (.met v f) rv):VMet Z γ h f (VR Z γ h v) rv:=x
theorem VR.excI{c:Nat}{fs:List V}{rv:Value}(x:VR Z γ h (.exc c fs) rv):VExc Z γ h c (VRs Z γ h fs) rv:=x
theorem VRs.nilI{ws:List Value}(x:VRs Z γ h [] ws):ws=[]:=x
theorem VRs.consI{v:V}{vs:List V}{ws:List Value}(x:VRs Z γ h (v :: vs) ws):VCons (VR Z γ h v) (VRs Z γ h vs) ws:=x
end
inductive ChainOk(γ:Gh)(h:Heap):Addr→Prop
 | last {e:Addr} {o:Obj} {ovs:Array Value}:h.get? e=some o→o.data=.fields ovs→γ.own e=.exn→ovs[2]?=some .none→ChainOk γ h e
 | next {e c:Addr} {o:Obj} {ovs:Array Value}:h.get? e=some o→o.data=.fields ovs→γ.own e=.exn→ovs[2]?=some (.ref c)→c < e→ChainOk γ h c→ChainOk γ h e
inductive TbOk(γ:Gh)(h:Heap)(e:Addr)(fs:Array Value):Prop | mk (T:Addr) (oT:Obj) (ts:Array Value):fs[1]?=some (.ref T)→γ.own T=.exn→T≠e→h.get? T=some oT→oT.data=.fields ts→3 < ts.size→TbOk γ h e fs
theorem TbOk.keep{γ γ':Gh}{h h':Heap}{e:Addr}{fs:Array Value}(k:∀ b o,h.get? b=some o→γ.own b=.exn→h'.get? b=some o)(w:∀ b,b < h.objs.size→γ'.own b=γ.own b)(x:TbOk γ h e fs):TbOk γ' h' e fs:=by
 obtain⟨T,oT,ts,a,b,c,d,e,f⟩:=x
 exact⟨T,oT,ts,a,(w T (Heap.lt_size d)).trans b,c,k _ _ d b,e,f⟩
inductive CtxOk(γ:Gh)(h:Heap)(e:Addr)(fs:Array Value):Prop | mk (c:Addr):fs[2]?=some (.ref c)→c < e→ChainOk γ h c→CtxOk γ h e fs
inductive ExnUp(γ:Gh)(h:Heap)(γ':Gh)(h':Heap)(b:Addr)(o:Obj)(fs:Array Value):Prop | mk (fs':Array Value):h'.get? b=some { o with data:=.fields fs' }→fs'.size=fs.size→(fs'[2]?=fs[2]?∨(fs[2]?=some .none∧CtxOk γ' h' b fs'))→(TbOk γ h b fs→TbOk γ' h' b fs')→ExnUp γ h γ' h' b o fs
theorem ExnUp.same{γ γ':Gh}{h h':Heap}{b:Addr}{o:Obj}{fs:Array Value}(e:h'.get? b=some o)(d:o.data=.fields fs)(tb:TbOk γ h b fs→TbOk γ' h' b fs):ExnUp γ h γ' h' b o fs:=by
 obtain⟨oc,od,oda,osl⟩:=o
 dsimp only at d
 subst d
 exact⟨fs,e,rfl,.inl rfl,tb⟩
structure Kp(X:Addr→Prop)(γ:Gh)(h:Heap)(γ':Gh)(h':Heap):Prop where
 size:h.objs.size≤h'.objs.size
 own:∀ b,b < h.objs.size→γ'.own b=γ.own b
 free:∀ b o,h.get? b=some o→γ.own b=.free→h'.get? b=some o
 env:∀ b o,h.get? b=some o→γ.own b=.env→¬ X b→∃ sl,h'.get? b=some { o with slots:=sl }
 itr:∀ b o,h.get? b=some o→γ.own b=.it→¬ X b→h'.get? b=some o
 exn:∀ b o fs,h.get? b=some o→γ.own b=.exn→o.data=.fields fs→ExnUp γ h γ' h' b o fs
 sg:∀ s a,γ.sg s=some a→γ'.sg s=some a∧γ'.nu s=γ.nu s
 rho:∀ i r,γ.rho i=some r→γ'.rho i=some r
 pre:∀ p,p≠0→γ'.pre p=γ.pre p
 scr:γ'.scr=γ.scr
 obi:∀ i,γ.obi=some i→γ'.obi=some i
section
variable{Z}
variable{X:Addr→Prop}{γ γ₁ γ₂:Gh}{h h₁ h₂:Heap}
theorem Kp.refl(X:Addr→Prop)(γ:Gh)(h:Heap):Kp X γ h γ h :=
 ⟨Nat.le_refl _,fun _ _=>rfl,fun _ _ e _=>e,fun _ o e _ _=>⟨o.slots,e⟩,fun _ _ e _ _=>e,fun _ _ _ e _ d=>.same e d id,fun _ _ e=>⟨e,rfl⟩,fun _ _ e=>e,fun _ _=>rfl,rfl,fun _ e=>e⟩
set_option tactic.hygienic true in
theorem ChainOk.mono(K:Kp X γ h γ₁ h₁){e:Addr}(x:ChainOk γ h e):ChainOk γ₁ h₁ e:=by
 induction x with
 | @last e o ovs a b c d =>
  obtain⟨fs',g,_,q,_⟩:=K.exn _ _ _ a c b
  have ow:γ₁.own e=.exn:=(K.own _ (Heap.lt_size a)).trans c
  rcases q with q | ⟨_,⟨c',q1,q2,q3⟩⟩
  ·exact .last g rfl ow (q.trans d)
  ·exact .next g rfl ow q1 q2 q3
 | @next e c' o ovs a b c d lt _ ih =>
  obtain⟨fs',g,_,q,_⟩:=K.exn _ _ _ a c b
  have ow:γ₁.own e=.exn:=(K.own _ (Heap.lt_size a)).trans c
  rcases q with q | ⟨q0,_⟩
  ·exact .next g rfl ow (q.trans d) lt ih
  ·rw [d] at q0;cases q0
theorem Kp.trans(x:Kp X γ h γ₁ h₁)(y:Kp X γ₁ h₁ γ₂ h₂):Kp X γ h γ₂ h₂ where
 size:=Nat.le_trans x.size y.size
 own b hb:=(y.own b (Nat.lt_of_lt_of_le hb x.size)).trans (x.own b hb)
 free b o e f:=y.free b o (x.free b o e f) ((x.own b (Heap.lt_size e)).trans f)
 env b o e f nx:=by
  obtain⟨sl,e₁⟩:=x.env b o e f nx
  obtain⟨sl₂,e₂⟩:=y.env b _ e₁ ((x.own b (Heap.lt_size e)).trans f) nx
  exact⟨sl₂,e₂⟩
 itr b o e f nx:=y.itr b o (x.itr b o e f nx) ((x.own b (Heap.lt_size e)).trans f) nx
 exn b o fs e f d:=by
  obtain⟨f1,g1,z1,q1,t1⟩:=x.exn b o fs e f d
  obtain⟨f2,g2,z2,q2,t2⟩:=y.exn b _ f1 g1 ((x.own b (Heap.lt_size e)).trans f) rfl
  refine ⟨f2,g2,z2.trans z1,?_,fun t=>t2 (t1 t)⟩
  rcases q1 with q1 | ⟨p0,⟨c,p1,p2,p3⟩⟩
  ·rcases q2 with q2 | ⟨r0,⟨c,r1,r2,r3⟩⟩
   ·exact .inl (q2.trans q1)
   ·exact .inr ⟨q1.symm.trans r0,⟨c,r1,r2,r3⟩⟩
  ·rcases q2 with q2 | ⟨r0,_⟩
   ·exact .inr ⟨p0,⟨c,q2.trans p1,p2,p3.mono y⟩⟩
   ·rw [p1] at r0;cases r0
 sg s a e:=⟨(y.sg s a (x.sg s a e).1).1,(y.sg s a (x.sg s a e).1).2.trans (x.sg s a e).2⟩
 rho i r e:=y.rho i r (x.rho i r e)
 pre p hp:=(y.pre p hp).trans (x.pre p hp)
 scr:=y.scr.trans x.scr
 obi i e:=y.obi i (x.obi i e)
theorem Kp.widen{X':Addr→Prop}(x:Kp X' γ h γ₁ h₁)(k:∀ b,X' b→X b∨h.objs.size≤b):Kp X γ h γ₁ h₁ :=
 ⟨x.size,x.own,x.free,fun b o e f nx=>x.env b o e f fun q=>(k b q).elim nx fun le=>absurd (Heap.lt_size e) (Nat.not_lt.mpr le),fun b o e f nx=>x.itr b o e f fun q=>(k b q).elim nx fun le=>absurd (Heap.lt_size e) (Nat.not_lt.mpr le),x.exn,x.sg,x.rho,x.pre,x.scr,x.obi⟩
theorem Kp.ns(x:Kp X γ h γ₁ h₁){d:Addr}{m:PS→Option Value}(n:h.Ns d m)(f:γ.own d=.free):h₁.Ns d m :=
 let ⟨o,es,ep,ho,r⟩:=n;⟨o,es,ep,x.free _ _ ho f,r⟩
theorem Kp.nsEnv(x:Kp X γ h γ₁ h₁){d:Addr}{m:PS→Option Value}(n:h.Ns d m)(f:γ.own d=.env)(nx:¬ X d):h₁.Ns d m:=by
 obtain⟨o,es,ep,ho,hd,r⟩:=n
 obtain⟨sl,e⟩:=x.env _ _ ho f nx
 exact⟨_,es,ep,e,hd,r⟩
theorem Kp.ownFree(x:Kp X γ h γ₁ h₁){a:Addr}{o:Obj}(e:h.get? a=some o)(f:γ.own a=.free):γ₁.own a=.free:=(x.own a (Heap.lt_size e)).trans f
theorem Kp.bs(x:Kp X γ h γ₁ h₁):γ₁.bs=γ.bs:=by unfold Gh.bs;rw [x.pre 7 (by decide)]
noncomputable def C.refs(c:C):List (Nat × Nat):=match c with | .clo i=>[(0,i)] | .num i _=>[(1,i)] | .upto _=>[(2,0)] | _=>[]
noncomputable def V.refs(v:V):List (Nat × Nat):=@V.rec (fun _=>List (Nat × Nat)) (fun _=>List (Nat × Nat)) C.refs (fun i=>[(0,i)]) (fun _ _ r=>r) (fun _ r=>r) (fun _ _ r=>r) (fun _ _ r=>r) [] (fun _ _ a b=>a ++ b) v
noncomputable def V.refsL(v:List V):List (Nat × Nat):=@V.rec_1 (fun _=>List (Nat × Nat)) (fun _=>List (Nat × Nat)) C.refs (fun i=>[(0,i)]) (fun _ _ r=>r) (fun _ r=>r) (fun _ _ r=>r) (fun _ _ r=>r) [] (fun _ _ a b=>a ++ b) v
theorem V.ind{P:V→Prop}{L:List V→Prop}(a:∀ c,P (.a c))(ref:∀ i,P (.ref i))(obj:∀ c fs,L fs→P (.obj c fs))(tup:∀ vs,L vs→P (.tup vs))(met:∀ v f,P v→P (.met v f))(exc:∀ c fs,L fs→P (.exc c fs))(nil:L [])(cons:∀ v vs,P v→L vs→L (v :: vs)):(∀ v,P v)∧∀ l,L l :=
 ⟨fun v=>@V.rec P L a ref obj tup met exc nil cons v,fun l=>@V.rec_1 P L a ref obj tup met exc nil cons l⟩
structure Tr(R:Nat × Nat→Prop)(γ γ':Gh)(h h':Heap):Prop where
 free:∀ b o,h.get? b=some o→γ.own b=.free→h'.get? b=some o∧γ'.own b=.free
 exn:∀ b o fs,h.get? b=some o→γ.own b=.exn→o.data=.fields fs→γ'.own b=.exn∧∃ fs',h'.get? b=some { o with data:=.fields fs' }
 obj:∀ b i,R (0,i)→γ.own b=.obj i 0→γ'.own b=.obj i 0
 sg:∀ s a,γ.sg s=some a→γ'.sg s=some a∧γ'.nu s=γ.nu s
 rho:∀ i r,R (1,i)→γ.rho i=some r→γ'.rho i=some r
 bs:R (2,0)→γ'.bs=γ.bs
section
variable{γ':Gh}{h':Heap}{R:Nat × Nat→Prop}
theorem Tr.ns(t:Tr R γ γ' h h'){d:Addr}{m:PS→Option Value}(n:h.Ns d m)(f:γ.own d=.free):h'.Ns d m∧γ'.own d=.free :=
 let ⟨o,es,ep,ho,r⟩:=n;⟨⟨o,es,ep,(t.free _ _ ho f).1,r⟩,(t.free _ _ ho f).2⟩
theorem CR.map(t:Tr R γ γ' h h'){c:C}{w:Value}(x:CR Z γ h c w)(hr:∀ i∈c.refs,R i):CR Z γ' h' c w:=by
 cases c with
 | num i c=>obtain⟨r,k,e,q⟩:=x;exact⟨r,k,t.rho _ _ (hr _ (.head _)) e,q⟩
 | upto k=>obtain⟨z,k,q,a,b,c⟩:=x;rw [← t.bs (hr _ (.head _))] at b c;exact⟨z,k,q,a,b,c⟩
 | sym s=>obtain⟨a,q,e⟩:=x;exact⟨a,q,(t.sg _ _ e).1⟩
 | symnum s=>obtain⟨a,k,e,q⟩:=x;rw [← (t.sg _ _ e).2] at q;exact⟨a,k,(t.sg _ _ e).1,q⟩
 | scr=>obtain⟨a,ws,n,q,e,f,r,r2⟩:=x;exact⟨a,ws,n,q,(t.free _ _ e f).1,(t.free _ _ e f).2,r,r2⟩
 | rng x y z=>obtain⟨a,t1,u,v,q,e,f,r,r2,r3⟩:=x;exact⟨a,t1,u,v,q,(t.free _ _ e f).1,(t.free _ _ e f).2,r,r2,r3⟩
 | clo i=>obtain⟨a,la,l,q,e,f,o⟩:=x;exact⟨a,la,l,q,e,(fun p hp=>t.free _ _ (f p hp).1 (f p hp).2),t.obj _ _ (hr _ (.head _)) o⟩
 | _=>exact x
theorem VR.map2(t:Tr R γ γ' h h'):(∀ v:V,∀ w:Value,VR Z γ h v w→(∀ i∈v.refs,R i)→VR Z γ' h' v w)∧∀ (v:List V) (w:List Value),VRs Z γ h v w→(∀ i∈V.refsL v,R i)→VRs Z γ' h' v w:=by
 refine V.ind (fun c w x hr=>CR.map t x hr) (fun i w x hr=>?_) (fun c fs ih w x hr=>?_) (fun fs ih w x hr=>?_) (fun v f ih w x hr=>?_) (fun c fs ih w x hr=>?_) (fun _ x _=>x) (fun v vs ih ih2 w x hr=>?_)
 ·obtain⟨a,q,e⟩:=x;exact⟨a,q,t.obj _ _ (hr _ (.head _)) e⟩
 ·obtain⟨cd,a,d,m,rvs,q,c,e,f1,f2,n,r,u,u2,u3⟩:=x.objI;exact⟨cd,a,d,m,rvs,q,c,(t.free _ _ e f1).1,(t.free _ _ e f1).2,(t.ns n f2).2,(t.ns n f2).1,ih _ r hr,u,u2,u3⟩
 ·obtain⟨ws,a,n,q,e,f,r⟩:=x.tupI;exact⟨ws,a,n,q,(t.free _ _ e f).1,(t.free _ _ e f).2,ih _ r hr⟩
 ·obtain⟨rs,a,q,e,f,r⟩:=x.metI;exact⟨rs,a,q,(t.free _ _ e f).1,(t.free _ _ e f).2,ih _ r hr⟩
 ·obtain⟨cd,a,d,ovs,m,rvs,q,c,k,e,f1,f2,n,r,u⟩:=x.excI
  obtain⟨x1,fs',g⟩:=t.exn _ _ _ e f1 rfl
  exact⟨cd,a,d,fs',m,rvs,q,c,k,g,x1,(t.ns n f2).2,(t.ns n f2).1,ih _ r hr,u⟩
 ·obtain⟨w,ws,q,a,b⟩:=x.consI;exact⟨w,ws,q,ih _ a fun i hi=>hr i (List.mem_append_left _ hi),ih2 _ b fun i hi=>hr i (List.mem_append_right _ hi)⟩
theorem VR.map(t:Tr R γ γ' h h'){v:V}{w:Value}(x:VR Z γ h v w)(hr:∀ i∈v.refs,R i):VR Z γ' h' v w:=(VR.map2 t).1 v w x hr
theorem VRs.map(t:Tr R γ γ' h h'){v:List V}{w:List Value}(x:VRs Z γ h v w)(hr:∀ i∈V.refsL v,R i):VRs Z γ' h' v w:=(VR.map2 t).2 v w x hr
end
noncomputable def Has(γ:Gh)(p:Nat × Nat):Prop:=(p.1=0→∃ a,γ.own a=.obj p.2 0)∧(p.1=1→γ.rho p.2≠none)
theorem CR.has{c:C}{w:Value}(x:CR Z γ h c w):∀ i∈c.refs,Has γ i:=by
 intro p hi
 cases c with
 | num i c=>obtain⟨r,k,e,q⟩:=x;obtain rfl:=List.mem_singleton.mp hi;exact⟨(fun z=>nomatch z),fun _ z=>by rw [e] at z;cases z⟩
 | upto k=>obtain rfl:=List.mem_singleton.mp hi;exact⟨(fun z=>nomatch z),fun z=>nomatch z⟩
 | clo i=>obtain⟨a,la,l,q,e,f,o⟩:=x;obtain rfl:=List.mem_singleton.mp hi;exact⟨fun _=>⟨_,o⟩,fun z=>nomatch z⟩
 | _=>cases hi
theorem VR.has2:(∀ (v:V) (w:Value),VR Z γ h v w→∀ i∈v.refs,Has γ i)∧∀ (v:List V) (w:List Value),VRs Z γ h v w→∀ i∈V.refsL v,Has γ i:=by
 refine V.ind (fun c w x=>CR.has x) (fun i w x p hi=>?_) (fun c fs ih w x=>?_) (fun fs ih w x=>?_) (fun v f ih w x=>?_) (fun c fs ih w x=>?_) (fun _ _ _ hi=>nomatch hi) (fun v vs ih ih2 w x p hi=>?_)
 ·obtain⟨a,q,e⟩:=x;obtain rfl:=List.mem_singleton.mp hi;exact⟨fun _=>⟨_,e⟩,fun z=>nomatch z⟩
 ·obtain⟨cd,a,d,m,rvs,q,c,e,f1,f2,n,r,u,u2,u3⟩:=x.objI;exact ih _ r
 ·obtain⟨ws,a,n,q,e,f,r⟩:=x.tupI;exact ih _ r
 ·obtain⟨rs,a,q,e,f,r⟩:=x.metI;exact ih _ r
 ·obtain⟨cd,a,d,ovs,m,rvs,q,c,k,e,f1,f2,n,r,u⟩:=x.excI;exact ih _ r
 ·obtain⟨w,ws,q,a,b⟩:=x.consI;exact (List.mem_append.mp hi).elim (ih _ a p) (ih2 _ b p)
theorem VR.has{v:V}{w:Value}(x:VR Z γ h v w):∀ i∈v.refs,Has γ i:=VR.has2.1 v w x
theorem VRs.has{v:List V}{w:List Value}(x:VRs Z γ h v w):∀ i∈V.refsL v,Has γ i:=VR.has2.2 v w x
theorem Kp.tr(x:Kp X γ h γ₁ h₁)(bnd:∀ b,γ.own b≠.free→b < h.objs.size):Tr (fun _=>True) γ γ₁ h h₁ :=
 ⟨fun _ _ e f=>⟨x.free _ _ e f,x.ownFree e f⟩,fun _ _ _ e f d=>⟨(x.own _ (Heap.lt_size e)).trans f,let ⟨fs',g,_,_,_⟩:=x.exn _ _ _ e f d;⟨fs',g⟩⟩,fun _ _ _ e=>(x.own _ (bnd _ (by rw [e];exact Ow.noConfusion))).trans e,x.sg,fun _ _ _ e=>x.rho _ _ e,fun _=>x.bs⟩
theorem VR.mono(x:Kp X γ h γ₁ h₁)(bnd:∀ b,γ.own b≠.free→b < h.objs.size){v:V}{w:Value}(y:VR Z γ h v w):VR Z γ₁ h₁ v w:=y.map (x.tr bnd) fun _ _=>trivial
theorem VRs.mono(x:Kp X γ h γ₁ h₁)(bnd:∀ b,γ.own b≠.free→b < h.objs.size){v:List V}{w:List Value}(y:VRs Z γ h v w):VRs Z γ₁ h₁ v w:=y.map (x.tr bnd) fun _ _=>trivial
end
end
noncomputable abbrev prog:=PySem.Challenge.pw_np0117_01
structure FR(Z:SA)(γ:Gh)(h:Heap)(fs:FL)(m:PS→Option Value):Prop where
 f1:∀ x v,fs.look x=some v→∃ rv,m (nmS x)=some rv∧VR Z γ h v rv
 f2:∀ y rv,m y=some rv→∃ x v,fs.look x=some v∧nmS x=y
inductive IntsAt(γ:Gh)(h:Heap)(rv:Value)(zs:List Int):Prop | mk (a:Addr) (ws:Array Value) (n:Nat):rv=.ref a→γ.own a=.free→h.get? a=some ⟨.type "list",none,.seq ws n,#[]⟩→ws.toList.length=zs.length→(∀ (j:Nat) (w:Value) (z:Int),ws.toList[j]?=some w→zs[j]?=some z→∃ t,w=.int z t)→IntsAt γ h rv zs
noncomputable def PreR(γ:Gh)(h:Heap)(p:Nat)(pre:List Value):Prop :=
 if p=0 then pre=[] else pre.length=(γ.pre p).length∧∀ (i:Nat) (rv:Value) (zs:List Int),pre[i]?=some rv→(γ.pre p)[i]?=some zs→IntsAt γ h rv zs
structure DR(Z:SA)(γ:Gh)(h:Heap)(k:Nat)(fs:FL)(kvs:List (Int × Value)):Prop where
 f1:∀ p∈kvs,∃ s a,γ.sg s=some a∧p.1=γ.nu s
 f2:(kvs.map (·.1)).Nodup
 f3:∀ s a v,γ.sg s=some a→fs.look s=some v→∃ rv,valueAt kvs (γ.nu s:Int)=some rv∧VR Z γ h v rv
 f4:∀ s a,γ.sg s=some a→fs.look s=none→valueAt kvs (γ.nu s:Int)=none∨(k=1∧valueAt kvs (γ.nu s:Int)=some .none)
 f5:∀ s v,fs.look s=some v→∃ a,γ.sg s=some a
structure Own2(γ:Gh)(i:Nat)(a d:Addr):Prop where
 f1:γ.own a=.obj i 0
 f2:γ.own d=.obj i 1
 f3:∀ b p,γ.own b=.obj i p→b=a∨b=d
structure Own1(γ:Gh)(i:Nat)(a:Addr):Prop where
 f1:γ.own a=.obj i 0
 f2:∀ b p,γ.own b=.obj i p→b=a
inductive DeckR(h:Heap)(a c e:Addr):Prop | mk (n₁ n₂ n₃:Nat) (cs:Array Value) (seed:Int) (t:Tok):h.get? a=some ⟨.type "list",none,.seq #[.ref c,.ref e] n₁,#[]⟩→h.get? c=some ⟨.type "list",none,.seq cs n₂,#[]⟩→h.get? e=some ⟨.type "list",none,.seq #[.int seed t] n₃,#[]⟩ →
  0≤seed→seed < 10 ^ 25→cs.size≤10→(∀ w∈cs,∃ z t,w=.int z t∧0≤z∧z < 10 ^ 24)→DeckR h a c e
structure Own4(γ:Gh)(i:Nat)(a d lr ld:Addr):Prop where
 f1:γ.own a=.obj i 0
 f2:γ.own d=.obj i 1
 f3:γ.own lr=.obj i 2
 f4:γ.own ld=.obj i 3
 f5:∀ b p,γ.own b=.obj i p→b=a∨b=d∨b=lr∨b=ld
inductive ObarR(Z:SA)(w:World)(γ:Gh)(h:Heap)(i:Nat):Prop | mk (a d lr ld:Addr) (m:PS→Option Value) (rows:Array Value) (n:Nat) (kvs:List (PS × Value)):Own4 γ i a d lr ld →
 γ.obi=some i→h.get? a=some ⟨.ref (Z.clA 40),some d,.plain,#[]⟩→h.Ns1 d m→m (nmS nRows)=some (.ref lr)→m (nmS nNames)=some (.ref ld)→(∀ y v,m y=some v→y=nmS nRows∨y=nmS nNames) →
 h.get? lr=some ⟨.type "list",none,.seq rows n,#[]⟩→h.DictOf (strKind prog w) ld kvs→rows.size=kvs.length→(kvs.map (·.1)).Nodup →
 (∀ p∈kvs,∃ s b,γ.sg s=some b∧p=(nmS s,Value.ref b))→(∀ s b,γ.sg s=some b→(nmS s,Value.ref b)∈kvs∧γ.nu s < rows.size)→ObarR Z w γ h i
inductive OInst(Z:SA)(γ:Gh)(h:Heap)(i c:Nat)(fs:FL):Prop | mk (a d:Addr) (m:PS→Option Value) (cd:CD):clT.get c=some cd→cd.kind≠2→(∀ x v,fs.look x=some v→memN cd.flds x=true)→Own2 γ i a d→h.get? a=some ⟨.ref (Z.clA c),some d,.plain,#[]⟩→h.Ns1 d m→FR Z γ h fs m→OInst Z γ h i c fs
inductive OLst(Z:SA)(γ:Gh)(h:Heap)(i p:Nat)(vs:VL):Prop | mk (a:Addr) (pre ws:List Value) (n:Nat):Own1 γ i a→h.get? a=some ⟨.type "list",none,.seq (pre ++ ws).toArray n,#[]⟩→PreR γ h p pre→VRs Z γ h vs ws→pre.length≤1000→ws.length≤100→OLst Z γ h i p vs
inductive ODic(Z:SA)(w:World)(γ:Gh)(h:Heap)(i k:Nat)(fs:FL):Prop | mk (a:Addr) (kvs:List (Int × Value)):Own1 γ i a→h.DictOf (intKind prog w) a kvs→DR Z γ h k fs kvs→ODic Z w γ h i k fs
inductive OSdic(Z:SA)(w:World)(γ:Gh)(h:Heap)(i:Nat)(x y:V):Prop | mk (a:Addr) (v₁ v₂:Value):Own1 γ i a→h.DictOf (strKind prog w) a [(nmS 0,v₁),(nmS 1,v₂)]→VR Z γ h x v₁→VR Z γ h y v₂→OSdic Z w γ h i x y
structure Own5(γ:Gh)(i:Nat)(a:Addr):Prop where
 f1:γ.own a=.obj i 5
 f2:∀ b p,γ.own b=.obj i p→b=a
inductive ONtab(Z:SA)(γ:Gh)(h:Heap)(i d:Nat):Prop | mk (a:Addr) (ob:Obj):Own5 γ i a→h.get? a=some ob→a=Z.ntA→(∃ more,ob=⟨Z.ntC,none,.fields more,#[]⟩∧(d=0→more=#[]))→ONtab Z γ h i d
structure Own3(γ:Gh)(i:Nat)(a c e:Addr):Prop where
 f1:γ.own a=.obj i 0
 f2:γ.own c=.obj i 1
 f3:γ.own e=.obj i 2
 f4:∀ b p,γ.own b=.obj i p→b=a∨b=c∨b=e
inductive ODeck(γ:Gh)(h:Heap)(i:Nat):Prop | mk (a c e:Addr):Own3 γ i a c e→DeckR h a c e→ODeck γ h i
noncomputable def ObjR(Z:SA)(w:World)(γ:Gh)(h:Heap)(i:Nat)(o:O):Prop:=@O.rec (fun _=>Prop) (OInst Z γ h i) (OLst Z γ h i) (ODic Z w γ h i) (ODeck γ h i) (ObarR Z w γ h i) (OSdic Z w γ h i) (∀ b p,γ.own b≠.obj i p) (ONtab Z γ h i) o
inductive SymAt(Z:SA)(γ:Gh)(h:Heap)(s:Nat)(a:Addr):Prop | mk:s < names.length→γ.own a=.free→(d:Addr)→(m:PS→Option Value)→(t₁ t₂:Tok)→h.get? a=some ⟨.ref (Z.clA 2),some d,.plain,#[]⟩→γ.own d=.free→h.Ns d m→m (nmS nName)=some (.str (nmS s) t₁)→m (nmS nNumber)=some (.int (γ.nu s) t₂)→(∀ y v,m y=some v→y=nmS nName∨y=nmS nNumber)→SymAt Z γ h s a
structure SymR(Z:SA)(γ:Gh)(h:Heap):Prop where
 at_:∀ s a,γ.sg s=some a→SymAt Z γ h s a
 inj:∀ s t a b,γ.sg s=some a→γ.sg t=some b→γ.nu s=γ.nu t→s=t
 uniq:∀ s t a,γ.sg s=some a→γ.sg t=some a→s=t
 nil:γ.sg 0=some Z.nilA∧γ.nu 0=0
 tee:γ.sg 1=some Z.teeA∧γ.nu 1=1
structure Rel(Z:SA)(w:World)(γ:Gh)(H:HT)(n:Nat)(s:Shared):Prop where
 st:(Z.K w.params).In s.heap
 stf:∀ a o,(Z.K w.params).lookup a=some o→γ.own a=.free
 bnd:∀ b,γ.own b≠.free→b < s.heap.objs.size
 obj:∀ i,ObjR Z w γ s.heap i (H.get i)
 fresh:∀ i,n≤i→H.get i=.gone∧γ.rho i=none
 sym:SymR Z γ s.heap
 obi:∀ i,γ.obi=some i→H.get i=.obar
 sym0:γ.obi=none→∀ i a,γ.sg i=some a→i=0∨i=1
 lim:s.heap.NoLimit
 limf:γ.own cStatics=.free
 gens:s.gens=#[]
 tkn:s.toks≠0
structure EnvS(env:Env):Prop where
 kind:env.scope.kind=.function
 glob:env.globals=mainGlobals
 blt:env.builtins=builtinsNs
 frame:∃ F,env.frame=some F
noncomputable def EnvSc(env:Env)(sc:List (PS × NameKind)):Prop:=∀ x k,sc.lookup x=some k→k≠.free→env.kindOf x=some k
inductive CellAt(γ:Gh)(h:Heap)(c:Addr):Prop | mk (oc:Obj) (v:Option Value):h.get? c=some oc→oc.data=.cell v→(γ.own c=.env∨γ.own c=.free)→CellAt γ h c
structure CellsR(γ:Gh)(h:Heap)(env:Env):Prop where
 at_:∀ x c,env.cells.lookup x=some c→CellAt γ h c
 has:∀ x,env.kindOf x=some .cell→∃ c,env.cells.lookup x=some c∧γ.own c=.env
 inj:∀ x y c,env.cells.lookup x=some c→env.cells.lookup y=some c→x=y
inductive VarAt(Z:SA)(γ:Gh)(h:Heap)(env:Env)(m:PS→Option Value)(x:Nat)(v:V):Prop
 | loc:env.kindOf (nmS x)=some .local→(rv:Value)→m (nmS x)=some rv→VR Z γ h v rv→VarAt Z γ h env m x v
 | cel:(env.kindOf (nmS x)=some .cell∨env.kindOf (nmS x)=some .free)→(c:Addr)→(oc:Obj)→(rv:Value)→env.cells.lookup (nmS x)=some c→h.get? c=some oc→oc.data=.cell (some rv)→VR Z γ h v rv→VarAt Z γ h env m x v
inductive EnvR(Z:SA)(γ:Gh)(h:Heap)(env:Env)(l:FL):Prop
 | mk (m:PS→Option Value):h.Ns env.locals m→γ.own env.locals=.env→CellsR γ h env→(∀ x v,l.look x=some v→x < names.length∧VarAt Z γ h env m x v)→EnvR Z γ h env l
structure AOk(N:Nat)(A:Around):Prop where
 depth:A.depth + 3 * N≤690
 units:A.units + 12 * N≤5000
inductive FrOk(A:Around)(γ:Gh)(h:Heap)(env:Env):Prop | mk (fe:Env) (outer:List Env):A.frames=some (fe :: outer)→fe.frame=env.frame→h.FunFrames {} (fe :: outer)→(∀ e∈fe :: outer,∀ L,e.frame=some L→γ.own L=.env)→FrOk A γ h env
structure HdOk(A:Around)(hd:Bool)(γ:Gh)(h:Heap):Prop where
 f1:hd=false→A.handled=none
 f2:A.handled=none∨∃ e,A.handled=some (.ref e)∧ChainOk γ h e
structure Fro(s s':Shared):Prop where
 f1:s'.gens=s.gens
 f2:s'.drawn=s.drawn
 f3:s'.os=s.os
noncomputable abbrev NX:Addr→Prop:=fun _=>False
inductive FlyE(Z:SA)(γ:Gh)(h:Heap)(c:Nat)(fs:VL)(e:Addr)(ovs:Array Value):Prop
 | mk (cd:CD) (d:Addr) (m:PS→Option Value) (rvs:List Value):clT.get c=some cd→cd.kind=2→h.get? e=some ⟨.ref (Z.clA c),some d,.fields ovs,#[]⟩→γ.own e=.exn→γ.own d=.free→h.Ns d m→VRs Z γ h fs rvs→cd.fields.map (fun x=>m (nmS x))=rvs.map some →
   ovs.size=6→(ovs[2]?=some .none∨CtxOk γ h e ovs)→FlyE Z γ h c fs e ovs
noncomputable def FlyD(Z:SA)(γ:Gh)(h:Heap)(v:V)(e:Addr)(ovs:Array Value):Prop:=match v with
 | .exc c fs=>FlyE Z γ h c fs e ovs
 | _=>False
inductive FlyT(γ:Gh)(h:Heap)(e:Addr)(ovs:Array Value)(ok:Value→Prop):Prop
 | mk (T:Addr) (oT:Obj) (ts:Array Value) (fl:Value):ovs[1]?=some (.ref T)→γ.own T=.exn→T≠e→h.get? T=some oT→oT.data=.fields ts→ts[3]?=some fl→ok fl→FlyT γ h e ovs ok
inductive Fly(Z:SA)(γ:Gh)(h:Heap)(v:V)(rv:Value):Prop | mk (e:Addr) (ovs:Array Value):rv=.ref e→FlyD Z γ h v e ovs→FlyT γ h e ovs (·=.none)→Fly Z γ h v rv
inductive FlyS(Z:SA)(γ:Gh)(h:Heap)(env:Env)(v:V)(rv:Value):Prop | mk (e:Addr) (ovs:Array Value):rv=.ref e→FlyD Z γ h v e ovs→(ovs[1]?=some .none∨FlyT γ h e ovs fun fl=>fl=.none∨∃ L,env.frame=some L∧fl=rawInt L)→FlyS Z γ h env v rv
inductive PostV(Z:SA)(w:World)(X:Addr→Prop)(γ:Gh)(s:Shared)(k:KV)(rv:Value)(s':Shared):Prop
 | mk (v:V) (H:HT) (n:Nat) (γ':Gh):k v H n=true→Rel Z w γ' H n s'→Kp X γ s.heap γ' s'.heap→VR Z γ' s'.heap v rv→Fro s s'→PostV Z w X γ s k rv s'
inductive PostX(Z:SA)(w:World)(X:Addr→Prop)(γ:Gh)(s:Shared)(kx:KV)(e:Value)(s':Shared):Prop
 | mk (v:V) (H:HT) (n:Nat) (γ':Gh):kx v H n=true→Rel Z w γ' H n s'→Kp X γ s.heap γ' s'.heap→Fly Z γ' s'.heap v e→Fro s s'→PostX Z w X γ s kx e s'
section
variable(Z:SA)(w:World)
noncomputable def SndC(N:Nat):Prop:=∀ (hd:Bool) (A:Around) (env:Env) (f:V) (vs:VL) (H:HT) (n:Nat) (k kx:KV) (γ:Gh) (s:Shared) (rf:Value) (rvs:List Value),
 AOk N A→HdOk A hd γ s.heap→FrOk A γ s.heap env→Rel Z w γ H n s→VR Z γ s.heap f rf→VRs Z γ s.heap vs rvs→(mk fnT FDeed N hd).cl f vs H n k kx=true →
 wpAny (model prog w) A (PySem.call rf rvs) (PostV Z w NX γ s k) (PostX Z w NX γ s kx) s
end
section
variable{Z:SA}{w:World}{hd:Bool}{X:Addr→Prop}{γ γ' γ₁:Gh}{h h':Heap}{s s' s₁:Shared}{H H':HT}{n n' N:Nat}{A:Around}{env:Env}{l:FL}{k kx:KV}{sc:List (PS × NameKind)}
theorem Fro.refl(s:Shared):Fro s s:=⟨rfl,rfl,rfl⟩
theorem Fro.trans(x:Fro s s')(y:Fro s' s₁):Fro s s₁:=⟨y.1.trans x.1,y.2.trans x.2,y.3.trans x.3⟩
theorem Fro.hp{h':Heap}{t:Nat}(x:Fro { s with heap:=h',toks:=t } s₁):Fro s s₁:=⟨x.1,x.2,x.3⟩
theorem Fro.hq{h':Heap}{t:Nat}(x:Fro s s₁):Fro s { s₁ with heap:=h',toks:=t }:=⟨x.1,x.2,x.3⟩
theorem Rel.tok(x:Rel Z w γ H n s)(eh:s'.heap=s.heap)(eg:s'.gens=s.gens)(et:s.toks≤s'.toks):Rel Z w γ H n s' :=
 ⟨eh ▸ x.st,x.stf,eh ▸ x.bnd,fun i=>eh ▸ x.obj i,x.fresh,eh ▸ x.sym,x.obi,x.sym0,eh ▸ x.lim,x.limf,eg.trans x.gens,fun e=>x.tkn (Nat.le_zero.mp (e ▸ et))⟩
theorem PostV.up{rv:Value}(K:Kp X γ s.heap γ' s'.heap)(F:Fro s s')(x:PostV Z w X γ' s' k rv s₁):PostV Z w X γ s k rv s₁ :=
 let ⟨v,H,n,γ'',a,b,c,d,e⟩:=x;⟨v,H,n,γ'',a,b,K.trans c,d,F.trans e⟩
theorem PostX.up{rv:Value}(K:Kp X γ s.heap γ' s'.heap)(F:Fro s s')(x:PostX Z w X γ' s' k rv s₁):PostX Z w X γ s k rv s₁ :=
 let ⟨v,H,n,γ'',a,b,c,d,e⟩:=x;⟨v,H,n,γ'',a,b,K.trans c,d,F.trans e⟩
theorem up{t:Sem Value}(K:Kp X γ s.heap γ' s'.heap)(F:Fro s s')(x:wpAny (model prog w) A t (PostV Z w X γ' s' k) (PostX Z w X γ' s' kx) s₁) :
  wpAny (model prog w) A t (PostV Z w X γ s k) (PostX Z w X γ s kx) s₁:=wpAny_mono x (fun _ _ z=>z.up K F) fun _ _ z=>z.up K F
theorem EnvR.monoG(K:Kp X γ h γ' h')(K':∀ b o,h.get? b=some o→γ.own b=.env→(b=env.locals∨∃ x,env.cells.lookup x=some b)→∃ sl,h'.get? b=some { o with slots:=sl })(bnd:∀ b,γ.own b≠.free→b < h.objs.size)(x:EnvR Z γ h env l):EnvR Z γ' h' env l:=by
 obtain⟨m,hn,ho,hc,hl⟩:=x
 have cell:∀ {y c oc v},env.cells.lookup y=some c→h.get? c=some oc→oc.data=.cell v→(γ.own c=.env∨γ.own c=.free)→∃ oc',h'.get? c=some oc'∧oc'.data=.cell v:=fun {y c oc v} hy e d q =>
  q.elim (fun q=>let ⟨sl,e'⟩:=K' _ _ e q (.inr ⟨y,hy⟩);⟨_,e',d⟩) fun q=>⟨_,K.free _ _ e q,d⟩
 have ow:∀ {b},γ.own b=.env→γ'.own b=.env:=fun {b} e=>(K.own _ (bnd _ (by rw [e];exact Ow.noConfusion))).trans e
 refine ⟨m,?_,ow ho,⟨fun x c e=>?_,fun x e=>let ⟨c,a,b⟩:=hc.has x e;⟨c,a,ow b⟩,hc.inj⟩,fun x v e=>⟨(hl x v e).1,?_⟩⟩
 ·obtain⟨o,es,ep,g,hd,r⟩:=hn
  obtain⟨sl,e⟩:=K' _ _ g ho (.inl rfl)
  exact⟨_,es,ep,e,hd,r⟩
 ·obtain⟨oc,v,a,b,q⟩:=hc.at_ x c e
  obtain⟨oc',a',b'⟩:=cell e a b q
  exact⟨oc',v,a',b',by rw [K.own _ (Heap.lt_size a)];exact q⟩
 ·rcases (hl x v e).2 with ⟨a,rv,b,c⟩ | ⟨a,c,oc,rv,b,d,f,g⟩
  ·exact .loc a rv b (c.mono K bnd)
  ·obtain⟨_,_,_,_,q⟩:=hc.at_ _ c b
   obtain⟨oc',a',b'⟩:=cell b d f q
   exact .cel a c oc' rv b a' b' (g.mono K bnd)
theorem EnvR.mono(K:Kp NX γ h γ' h')(bnd:∀ b,γ.own b≠.free→b < h.objs.size)(x:EnvR Z γ h env l):EnvR Z γ' h' env l:=x.monoG K (fun b o e f _=>K.env b o e f id) bnd
theorem FrOk.fr{A':Around}(e:A'.frames=A.frames)(x:FrOk A γ h env):FrOk A' γ h env:=let ⟨fe,outer,a,b,c,d⟩:=x;⟨fe,outer,e.trans a,b,c,d⟩
theorem FrOk.monoG(K:Kp X γ h γ' h')(K':∀ b o,h.get? b=some o→γ.own b=.env→∃ o',h'.get? b=some o'∧((∀ vs,o.data≠.fields vs)→∀ vs,o'.data≠.fields vs))(bnd:∀ b,γ.own b≠.free→b < h.objs.size)(x:FrOk A γ h env):FrOk A γ' h' env:=by
 obtain⟨fe,outer,a,b,c,d⟩:=x
 refine ⟨fe,outer,a,b,?_,fun e he L hL=>(K.own _ (bnd _ (by rw [d e he L hL];exact Ow.noConfusion))).trans (d e he L hL)⟩
 have:∀ {l:List Env},(∀ e∈l,∀ L,e.frame=some L→γ.own L=.env)→h.FunFrames {} l→h'.FunFrames {} l:=by
  intro l
  induction l with
  | nil=>intro _ _;trivial
  | cons e r ih =>
   intro q ⟨x1,⟨L,o,x2,x3,x4,x5⟩,x6⟩
   obtain⟨o',x7,x8⟩:=K' _ _ x4 (q e (.head _) L x2)
   exact⟨x1,⟨L,o',x2,x3,x7,x8 x5⟩,ih (fun e' he=>q e' (.tail _ he)) x6⟩
 exact this d c
theorem FrOk.mono(K:Kp NX γ h γ' h')(bnd:∀ b,γ.own b≠.free→b < h.objs.size)(x:FrOk A γ h env):FrOk A γ' h' env:=x.monoG K (fun b o e f=>let ⟨sl,g⟩:=K.env b o e f id;⟨_,g,id⟩) bnd
theorem HdOk.in1(x:HdOk A hd γ h):HdOk A.in1 hd γ h:=⟨x.1,x.2⟩
theorem HdOk.mono(K:Kp X γ h γ' h')(x:HdOk A hd γ h):HdOk A hd γ' h':=⟨x.1,x.2.imp id fun⟨e,a,b⟩=>⟨e,a,b.mono K⟩⟩
structure Pre(Z:SA)(w:World)(N:Nat)(hd:Bool)(A:Around)(env:Env)(sc:List (PS × NameKind))(l:FL)(H:HT)(n:Nat)(γ:Gh)(s:Shared):Prop where
 C:SndC Z w N
 a:AOk N A
 hd:HdOk A hd γ s.heap
 es:EnvS env
 ec:EnvSc env sc
 f:FrOk A γ s.heap env
 r:Rel Z w γ H n s
 e:EnvR Z γ s.heap env l
noncomputable def SndE(Z:SA)(w:World)(sc:List (PS × NameKind))(m:EM)(e:PX):Prop:=∀ (N:Nat) (hd:Bool) (A:Around) (env:Env) (l:FL) (H:HT) (n:Nat) (k kx:KV) (γ:Gh) (s:Shared),
 Pre Z w N hd A env sc l H n γ s→m (Mine.mk fnT FDeed N hd) l H n k kx=true→wpAny (model prog w) A (eval e env) (PostV Z w NX γ s k) (PostX Z w NX γ s kx) s
theorem Pre.go(p:Pre Z w N hd A env sc l H n γ s)(K:Kp NX γ s.heap γ' s'.heap)(r:Rel Z w γ' H' n' s'):Pre Z w N hd A env sc l H' n' γ' s' :=
 ⟨p.C,p.a,p.hd.mono K,p.es,p.ec,p.f.mono K p.r.bnd,r,p.e.mono K p.r.bnd⟩
theorem SndE.at{m:EM}{e:PX}(x:SndE Z w sc m e)(p:Pre Z w N hd A env sc l H n γ s)(q:m (mk fnT FDeed N hd) l H n k kx=true) :
  wpAny (model prog w) A (eval e env) (PostV Z w NX γ s k) (PostX Z w NX γ s kx) s:=x N hd A env l H n k kx γ s p q
theorem sndE{m:EM}{e:PX}(x:∀ (N:Nat) (hd:Bool) (A:Around) (env:Env) (l:FL) (H:HT) (n:Nat) (k kx:KV) (γ:Gh) (s:Shared),Pre Z w N hd A env sc l H n γ s→m (mk fnT FDeed N hd) l H n k kx=true →
  wpAny (model prog w) A (eval e env) (PostV Z w NX γ s k) (PostX Z w NX γ s kx) s):SndE Z w sc m e:=x
theorem SndE.bind{m:EM}{e:PX}{f:Value→Sem Value}{k':KV}(x:SndE Z w sc m e)(p:Pre Z w N hd A env sc l H n γ s)(q:m (mk fnT FDeed N hd) l H n k' kx=true)
  (g:∀ v H' n' γ' rv s',k' v H' n'=true→Pre Z w N hd A env sc l H' n' γ' s'→Kp NX γ s.heap γ' s'.heap→VR Z γ' s'.heap v rv→wpAny (model prog w) A (f rv) (PostV Z w NX γ' s' k) (PostX Z w NX γ' s' kx) s') :
  wpAny (model prog w) A (eval e env >>= f) (PostV Z w NX γ s k) (PostX Z w NX γ s kx) s:=by
 refine wpAny_bind (wpAny_mono (x.at p q) (fun rv s' z=>?_) fun _ _ z=>z)
 obtain⟨v,H',n',γ',a,b,c,d,e⟩:=z
 exact up c e (g v H' n' γ' rv s' a (p.go c b) c d)
theorem ok{rv:Value}{v:V}(q:k v H n=true)(r:Rel Z w γ H n s)(vr:VR Z γ s.heap v rv):PostV Z w X γ s k rv s:=⟨v,H,n,γ,q,r,.refl ..,vr,.refl _⟩
theorem okT{rv:Value}{v:V}(q:k v H n=true)(r:Rel Z w γ H n s)(vr:VR Z γ s.heap v rv){t:Nat}(ht:s.toks≤t):PostV Z w X γ s k rv { s with toks:=t }:=⟨v,H,n,γ,q,r.tok rfl rfl ht,.refl ..,vr,rfl,rfl,rfl⟩
theorem sE_none{i:Nat}{p:Pos}:SndE Z w sc eNone (.Constant .none i p):=sndE fun _ _ _ _ _ _ _ _ _ _ _ P q=>wpAny_pure (ok q P.r .none)
theorem sE_bool{b:Bool}{i:Nat}{p:Pos}:SndE Z w sc (eBool b) (.Constant (.bool b) i p):=sndE fun _ _ _ _ _ _ _ _ _ _ _ P q=>wpAny_pure (ok q P.r (.bool b))
theorem sE_int{z i:Nat}{p:Pos}:SndE Z w sc (Xi z) (.Constant (.int (.ofNat z)) i p):=sndE fun _ _ _ _ _ _ _ _ _ _ s P q=>wpAny_Constant_int (okT q P.r (.int _ s.toks P.r.tkn) (Nat.le_succ _))
theorem sE_str{i j:Nat}{x:PS}{p:Pos}(e:nmS i=x)(hi:i < names.length):SndE Z w sc (eStr i) (.Constant (.str x) j p):=sndE fun _ _ _ _ _ _ _ _ _ _ s P q=>by
 subst e;exact wpAny_mkText (okT q P.r (.str s.toks hi rfl) (Nat.le_succ _))
theorem loadName_cell{c:Addr}{oc:Obj}{v:Value}{x:PS}{Q:Value→Shared→Prop}{E:Value→Shared→Prop}(hk:env.scope.kind=.function)(hl:env.kindOf x=some .cell∨env.kindOf x=some .free)(hx:x≠ "__classdict__")
  (hc:env.cells.lookup x=some c) (ho:s.heap.get? c=some oc) (hd:oc.data=.cell (some v)) (h:Q v s):wpAny (model prog w) A (loadName env x) Q E s:=by
 have cg:∀ {Q:Option Value→Shared→Prop},Q (some v) s→wpAny (model prog w) A (cellGet c) Q E s:=fun q=>by
  unfold cellGet;refine wpAny_bind (wpAny_load ho ?_);rw [hd];exact wpAny_pure q
 unfold loadName Env.blockKind
 rw [hk]
 rcases hl with hl | hl
 ·rw [hl]
  unfold cellOf;rw [hc]
  exact wpAny_bind (wpAny_pure (wpAny_bind (cg (wpAny_pure h))))
 ·rw [hl,beq_eq_false_iff_ne.mpr hx]
  unfold cellOf;rw [hc]
  exact wpAny_bind (wpAny_pure (wpAny_bind (cg (wpAny_pure h))))
inductive GloR(Z:SA)(w:World)(γ:Gh)(H:HT)(n:Nat)(s:Shared)(v:V)(rf:Value)(s':Shared):Prop | mk (γ':Gh):Rel Z w γ' H n s'→Kp NX γ s.heap γ' s'.heap→VR Z γ' s'.heap v rf→Fro s s'→GloR Z w γ H n s v rf s'
theorem SndE.glo{v:V}{e:PX}{E:Value→Shared→Prop}(g:SndE Z w sc (Xg v) e)(P:Pre Z w N hd A env sc l H n γ s):wpAny (model prog w) A (eval e env) (GloR Z w γ H n s v) E s:=by
 refine wpAny_mono (g N hd A env l H n (fun v' H' n'=>@decide (v'=v∧H'=H∧n'=n) (Classical.propDecidable _)) (fun _ _ _=>false) γ s P (@decide_eq_true _ (Classical.propDecidable _) ⟨rfl,rfl,rfl⟩)) (fun rf s1 z=>?_) fun e s1 z=>?_
 ·obtain⟨v',H',n',γ',q,R,K,vr,F⟩:=z
  obtain⟨rfl,rfl,rfl⟩:=@of_decide_eq_true _ (Classical.propDecidable _) q
  exact⟨γ',R,K,vr,F⟩
 ·obtain⟨_,_,_,_,q,_⟩:=z;exact Bool.noConfusion q
inductive OptK{α:Type}(o:Option α)(k:α→Bool):Prop | mk (a:α):o=some a→k a=true→OptK o k
theorem optK_some{α:Type}{o:Option α}{k:α→Bool}(e:optK o k=true):OptK o k:=by
 cases o with
 | none=>cases e
 | some a=>exact⟨a,rfl,e⟩
theorem sE_loc{i:Nat}{x:PS}{p:Pos}(e:nmS i=x)(hd:(x == ("__debug__" : PS))=false)(hx:x≠ "__classdict__"):SndE Z w sc (Xl i) (.Name x p):=sndE fun N hd A env l H n k kx γ s P q=>by
 subst e
 obtain⟨v,hv,q⟩:=optK_some (o:=l.look i) q
 refine wpAny_Name ?_ hd
 obtain⟨m,hn,_,_,hl⟩:=P.e
 rcases (hl i v hv).2 with ⟨a,rv,b,c⟩ | ⟨a,c,oc,rv,b,d,f,g⟩
 ·exact wpAny_loadName_local P.es.kind a hn b (ok q P.r c)
 ·exact loadName_cell P.es.kind a hx b d f (ok q P.r g)
end
theorem HT.get_node(o:O)(l r:HT)(i:Nat):(HT.node o l r).get i=if i=0 then o else if i % 2=1 then l.get (i / 2) else r.get (i / 2 - 1):=by
 show @Bool.rec (fun _=>O) (@Bool.rec (fun _=>O) (r.get (i / 2 - 1)) (l.get (i / 2)) (Nat.beq (i % 2) 1)) o (Nat.beq i 0)=_
 by_cases h:i=0
 ·subst h;rfl
 ·have h':Nat.beq i 0=false:=by cases e:Nat.beq i 0 with | false=>rfl | true=>exact absurd (Nat.eq_of_beq_eq_true e) h
  rw [h',if_neg h]
  by_cases q:i % 2=1
  ·rw [if_pos q,q];rfl
  ·have q':Nat.beq (i % 2) 1=false:=by cases e:Nat.beq (i % 2) 1 with | false=>rfl | true=>exact absurd (Nat.eq_of_beq_eq_true e) q
   rw [if_neg q,q']
theorem beqE(i j:Nat):Nat.beq i j=decide (i=j):=by
 by_cases h:i=j
 ·subst h;simp
 ·rw [decide_eq_false h];cases e:Nat.beq i j with | false=>rfl | true=>exact absurd (Nat.eq_of_beq_eq_true e) h
theorem half_of{i j:Nat}(m:j % 2=i % 2)(e:j / 2=i / 2):j=i:=(Nat.div_add_mod j 2).symm.trans ((by rw [m,e]:2 * (j / 2) + j % 2=2 * (i / 2) + i % 2).trans (Nat.div_add_mod i 2))
theorem half_odd{i j:Nat}(hi:i % 2=1)(hj:j % 2=1)(e:j / 2=i / 2):j=i:=half_of (hj.trans hi.symm) e
theorem half_pos{i:Nat}(h0:i≠0)(a:i % 2=0):0 < i / 2:=Nat.pos_of_ne_zero fun z=>h0 ((Nat.div_add_mod i 2).symm.trans (by rw [z,a]))
theorem half_even{i j:Nat}(hi0:i≠0)(hj0:j≠0)(hi:¬ i % 2=1)(hj:¬ j % 2=1)(e:j / 2 - 1=i / 2 - 1):j=i :=
 have a:=(Nat.mod_two_eq_zero_or_one i).resolve_right hi
 have b:=(Nat.mod_two_eq_zero_or_one j).resolve_right hj
 half_of (b.trans a.symm) (Nat.sub_one_cancel (half_pos hj0 b) (half_pos hi0 a) e)
section
variable{o v:O}{l l' r:HT}{i:Nat}
theorem HT.get_upd0(j:Nat):(HT.node o l r).get j=if j=0 then o else (HT.node v l r).get j:=by
 rw [HT.get_node,HT.get_node]
 by_cases q:j=0
 ·rw [if_pos q,if_pos q]
 ·rw [if_neg q,if_neg q,if_neg q]
theorem HT.get_updL(h0:i≠0)(h1:i % 2=1)(h:∀ j,l'.get j=if j=i / 2 then o else l.get j)(j:Nat):(HT.node v l' r).get j=if j=i then o else (HT.node v l r).get j:=by
 rw [HT.get_node,HT.get_node]
 by_cases q:j=0
 ·rw [if_pos q,if_pos q,if_neg (fun z=>h0 (z.symm.trans q))]
 ·rw [if_neg q,if_neg q]
  by_cases q3:j % 2=1
  ·rw [if_pos q3,if_pos q3,h]
   by_cases q4:j=i
   ·rw [if_pos q4,if_pos (by rw [q4])]
   ·rw [if_neg q4,if_neg (fun z=>q4 (half_odd h1 q3 z))]
  ·rw [if_neg q3,if_neg q3,if_neg (fun z=>q3 (by rw [z];exact h1))]
theorem HT.get_updR(h0:i≠0)(h1:¬ i % 2=1)(h:∀ j,l'.get j=if j=i / 2 - 1 then o else l.get j)(j:Nat):(HT.node v r l').get j=if j=i then o else (HT.node v r l).get j:=by
 rw [HT.get_node,HT.get_node]
 by_cases q:j=0
 ·rw [if_pos q,if_pos q,if_neg (fun z=>h0 (z.symm.trans q))]
 ·rw [if_neg q,if_neg q]
  by_cases q3:j % 2=1
  ·rw [if_pos q3,if_pos q3,if_neg (fun z=>h1 (by rw [← z];exact q3))]
  ·rw [if_neg q3,if_neg q3,h]
   by_cases q4:j=i
   ·rw [if_pos q4,if_pos (by rw [q4])]
   ·rw [if_neg q4,if_neg (fun z=>q4 (half_even h0 q h1 q3 z))]
theorem HT.get_gone(j:Nat):(HT.node .gone .nil .nil).get j=.gone:=by rw [HT.get_node];split <;> first | rfl | (split <;> rfl)
end
theorem HT.single_spec(o:O)(f:Nat):∀ (i:Nat) (k:HT→Bool),HT.single o f i k=true→∃ t,k t=true∧∀ j,t.get j=if j=i then o else .gone:=by
 induction f with
 | zero=>intro i k e;exact ff e
 | succ f ih =>
  intro i k e
  rcases brec e with ⟨h,e⟩ | ⟨h,e⟩
  ·rcases brec e with ⟨q,e⟩ | ⟨q,e⟩
   ·obtain⟨t,e1,e2⟩:=ih _ _ e
    exact⟨_,e1,fun j=>(HT.get_updR (beqF h) (beqF q) (l:=.nil) e2 j).trans (by rw [HT.get_gone])⟩
   ·obtain⟨t,e1,e2⟩:=ih _ _ e
    exact⟨_,e1,fun j=>(HT.get_updL (beqF h) (beqT q) (l:=.nil) e2 j).trans (by rw [HT.get_gone])⟩
  ·obtain rfl:=beqT h
   exact⟨_,e,fun j=>(HT.get_upd0 j).trans (by rw [HT.get_gone])⟩
theorem HT.setK_spec{o:O}:∀ {t:HT} {i:Nat} {k:HT→Bool},t.setK o i k=true→∃ t',k t'=true∧∀ j,t'.get j=if j=i then o else t.get j:=by
 intro t
 induction t with
 | nil=>intro i k e;exact HT.single_spec o 24 i k e
 | node v l r ihl ihr =>
  intro i k e
  rcases brec e with ⟨h,e⟩ | ⟨h,e⟩
  ·rcases brec e with ⟨q,e⟩ | ⟨q,e⟩
   ·obtain⟨t,e1,e2⟩:=ihr e
    exact⟨_,e1,HT.get_updR (beqF h) (beqF q) e2⟩
   ·obtain⟨t,e1,e2⟩:=ihl e
    exact⟨_,e1,HT.get_updL (beqF h) (beqT q) e2⟩
  ·obtain rfl:=beqT h
   exact⟨_,e,HT.get_upd0⟩
section
variable{Z:SA}{w:World}{X:Addr→Prop}{γ γ' γ₁:Gh}{h h':Heap}{s s' s₁:Shared}{H H':HT}{n n' N:Nat}{A:Around}{env:Env}{l:FL}{k kx:KV}{sc:List (PS × NameKind)}
set_option tactic.hygienic true in
theorem PreR.mono(K:Kp X γ h γ' h'){p:Nat}{pre:List Value}(x:PreR γ h p pre):PreR γ' h' p pre:=by
 unfold PreR at x ⊢
 split
 ·rename_i e;rw [if_pos e] at x;exact x
 ·rename_i e
  rw [if_neg e] at x
  rw [K.pre p e]
  refine ⟨x.1,fun i rv zs e1 e2=>?_⟩
  obtain⟨a,ws,n,q1,q2,q3,q4,q5⟩:=x.2 i rv zs e1 e2
  exact⟨a,ws,n,q1,K.ownFree q3 q2,K.free _ _ q3 q2,q4,q5⟩
theorem FR.mono(K:Kp X γ h γ' h')(bnd:∀ b,γ.own b≠.free→b < h.objs.size){fs:FL}{m:PS→Option Value}(x:FR Z γ h fs m):FR Z γ' h' fs m :=
 ⟨fun a v e=>let ⟨rv,p,q⟩:=x.1 a v e;⟨rv,p,q.mono K bnd⟩,x.2⟩
noncomputable def SameSg(γ γ':Gh):Prop:=γ'.sg=γ.sg∧γ'.nu=γ.nu
theorem DR.mono(K:Kp X γ h γ' h')(bnd:∀ b,γ.own b≠.free→b < h.objs.size)(S:SameSg γ γ'){kd:Nat}{fs:FL}{es:List (Int × Value)}(x:DR Z γ h kd fs es):DR Z γ' h' kd fs es:=by
 refine ⟨?_,x.2,fun s a v e e'=>?_,?_,?_⟩
 ·rw [S.1,S.2];exact x.1
 ·rw [S.1] at e;rw [S.2];exact let ⟨rv,p,q⟩:=x.3 s a v e e';⟨rv,p,q.mono K bnd⟩
 ·rw [S.1,S.2];exact x.4
 ·rw [S.1];exact x.5
theorem ObjR.mono(K:Kp X γ h γ' h')(bnd:∀ b,γ.own b≠.free→b < h.objs.size)(S:SameSg γ γ'){i:Nat}{o:O}(hs:∀ b p,γ.own b=.obj i p→h'.get? b=h.get? b)
  (ho:∀ b p,γ'.own b=.obj i p↔γ.own b=.obj i p) (x:ObjR Z w γ h i o):ObjR Z w γ' h' i o:=by
 cases o with
 | gone=>exact fun b p e=>x b p ((ho b p).mp e)
 | inst c fs =>
  obtain⟨a,d,m,cd,hcd,hk2,hfl,⟨o1,o2,o3⟩,g,nsd,f⟩:=x
  refine ⟨a,d,m,cd,hcd,hk2,hfl,⟨(ho _ _).mpr o1,(ho _ _).mpr o2,fun b p e=>o3 b p ((ho _ _).mp e)⟩,(hs _ _ o1).trans g,?_,f.mono K bnd⟩
  obtain⟨od,es,ep,e1,r⟩:=nsd
  exact⟨od,es,ep,(hs _ _ o2).trans e1,r⟩
 | lst p vs =>
  obtain⟨a,pre,ws,n,⟨o1,o2⟩,g,pr,v,b1,b2⟩:=x
  exact⟨a,pre,ws,n,⟨(ho _ _).mpr o1,fun b p e=>o2 b p ((ho _ _).mp e)⟩,(hs _ _ o1).trans g,pr.mono K,v.mono K bnd,b1,b2⟩
 | dic kd fs =>
  obtain⟨a,es,⟨o1,o2⟩,⟨od,l,ep,g,r⟩,d⟩:=x
  exact⟨a,es,⟨(ho _ _).mpr o1,fun b p e=>o2 b p ((ho _ _).mp e)⟩,⟨od,l,ep,(hs _ _ o1).trans g,r⟩,d.mono K bnd S⟩
 | obar =>
  obtain⟨a,d,lr,ld,m,rows,nr,kvs,⟨o1,o2,o3,o4,o5⟩,b,g1,⟨od,es,ep,e1,er⟩,m1,m2,m3,g2,⟨od',l',ep',g3,r3⟩,r,k2,k3,k4⟩:=x
  refine ⟨a,d,lr,ld,m,rows,nr,kvs,⟨(ho _ _).mpr o1,(ho _ _).mpr o2,(ho _ _).mpr o3,(ho _ _).mpr o4,fun b p e=>o5 b p ((ho _ _).mp e)⟩,K.obi _ b,(hs _ _ o1).trans g1,⟨od,es,ep,(hs _ _ o2).trans e1,er⟩,m1,m2,m3,(hs _ _ o3).trans g2,⟨od',l',ep',(hs _ _ o4).trans g3,r3⟩,r,k2,?_,?_⟩
  ·rw [S.1];exact k3
  ·rw [S.1,S.2];exact k4
 | sdic vx vy =>
  obtain⟨a,v₁,v₂,⟨o1,o2⟩,⟨od,l,ep,g,r⟩,d1,d2⟩:=x
  exact⟨a,v₁,v₂,⟨(ho _ _).mpr o1,fun b p e=>o2 b p ((ho _ _).mp e)⟩,⟨od,l,ep,(hs _ _ o1).trans g,r⟩,d1.mono K bnd,d2.mono K bnd⟩
 | ntab d =>
  obtain⟨a,ob,⟨o1,o2⟩,g,r,r2⟩:=x
  exact⟨a,ob,⟨(ho _ _).mpr o1,fun b p e=>o2 b p ((ho _ _).mp e)⟩,(hs _ _ o1).trans g,r,r2⟩
 | deck =>
  obtain⟨a,c,e,⟨o1,o2,o3,o4⟩,⟨n₁,n₂,n₃,cs,seed,t,g1,g2,g3,r,r1,r2,r3⟩⟩:=x
  exact⟨a,c,e,⟨(ho _ _).mpr o1,(ho _ _).mpr o2,(ho _ _).mpr o3,fun b p e=>o4 b p ((ho _ _).mp e)⟩,⟨n₁,n₂,n₃,cs,seed,t,(hs _ _ o1).trans g1,(hs _ _ o2).trans g2,(hs _ _ o3).trans g3,r,r1,r2,r3⟩⟩
theorem SymR.mono(K:Kp X γ h γ' h')(S:SameSg γ γ')(x:SymR Z γ h):SymR Z γ' h':=by
 obtain⟨a,b,c,d,e⟩:=x
 refine ⟨fun s ad q=>?_,?_,?_,?_,?_⟩
 ·rw [S.1] at q
  obtain⟨f0,f1,dd,m,t1,t2,g,f2,nsd,r1,r2,r3⟩:=a s ad q
  obtain⟨od,es,ep,e1,r⟩:=nsd
  rw [← S.2] at r2
  exact⟨f0,K.ownFree g f1,dd,m,t1,t2,K.free _ _ g f1,K.ownFree e1 f2,⟨od,es,ep,K.free _ _ e1 f2,r⟩,r1,r2,r3⟩
 all_goals rw [S.1];try rw [S.2]
 all_goals assumption
theorem Rel.upd(x:Rel Z w γ H n s)(K:Kp X γ s.heap γ' s'.heap)(S:SameSg γ γ')(j:Nat)
  (hs:∀ b i p,i≠j→γ.own b=.obj i p→s'.heap.get? b=s.heap.get? b) (ho:∀ b i p,i≠j→(γ'.own b=.obj i p↔γ.own b=.obj i p))
  (hj:ObjR Z w γ' s'.heap j (H'.get j)) (hH:∀ i,i≠j→H'.get i=H.get i) (hb:∀ b,γ'.own b≠.free→b < s'.heap.objs.size) (hn:n≤n') (hjn:j < n')
  (hr:∀ i,n'≤i→γ'.rho i=none) (hob:∀ i,γ'.obi=some i→H'.get i=.obar) (hso:γ'.obi=none→γ.obi=none) (hg:s'.gens=s.gens) (ht:s.toks≤s'.toks):Rel Z w γ' H' n' s' where
 st a o e:=K.free a o (x.st a o e) (x.stf a o e)
 stf a o e:=(K.own a (Heap.lt_size (x.st a o e))).trans (x.stf a o e)
 bnd:=hb
 obj i:=by
  by_cases e:i=j
  ·rw [e];exact hj
  ·rw [hH i e];exact (x.obj i).mono K x.bnd S (fun b p q=>hs b i p e q) fun b p=>ho b i p e
 fresh i e:=⟨(hH i (by omega)).trans (x.fresh i (Nat.le_trans hn e)).1,hr i e⟩
 sym:=x.sym.mono K S
 obi:=hob
 sym0 e:=by rw [S.1];exact x.sym0 (hso e)
 lim:=by
  obtain⟨mc,⟨o,es,ep,q,r⟩,u⟩:=x.lim
  exact⟨mc,⟨o,es,ep,K.free _ _ q x.limf,r⟩,u⟩
 limf:=by
  obtain⟨mc,⟨o,es,ep,q,r⟩,u⟩:=x.lim
  exact (K.own _ (Heap.lt_size q)).trans x.limf
 gens:=hg.trans x.gens
 tkn e:=x.tkn (Nat.le_zero.mp (e ▸ ht))
theorem Rel.freshFree(x:Rel Z w γ H n s){b:Addr}(e:s.heap.objs.size≤b):γ.own b=.free:=by
 cases q:γ.own b with
 | free=>rfl
 | _=>exact absurd (x.bnd b (by rw [q];exact Ow.noConfusion)) (Nat.not_lt.mpr e)
theorem Rel.more(x:Rel Z w γ H n s)(K:∀ b o,s.heap.get? b=some o→h'.get? b=some o)(hz:s.heap.objs.size≤h'.objs.size){t:Nat}(ht:s.toks≤t):Rel Z w γ H n { s with heap:=h',toks:=t } where
 st a o e:=K a o (x.st a o e)
 stf:=x.stf
 bnd b e:=Nat.lt_of_lt_of_le (x.bnd b e) hz
 obj i:=by
  have KK:Kp NX γ s.heap γ h':=⟨hz,fun _ _=>rfl,fun b o e _=>K b o e,fun b o e _ _=>⟨o.slots,K b o e⟩,fun b o e _ _=>K b o e,fun b o _ e _ d=>.same (K b o e) d (TbOk.keep (fun b o e _=>K b o e) fun _ _=>rfl),fun _ _ e=>⟨e,rfl⟩,fun _ _ e=>e,fun _ _=>rfl,rfl,fun _ e=>e⟩
  refine (x.obj i).mono KK x.bnd ⟨rfl,rfl⟩ (fun b p q=>?_) fun b p=>Iff.rfl
  have lb:=x.bnd b (by rw [q];exact Ow.noConfusion)
  cases g:s.heap.get? b with
  | some o=>exact K b o g
  | none =>
   exfalso
   have ob:=x.obj i
   cases e:H.get i with
   | gone=>rw [e] at ob;exact ob b p q
   | inst c fs=>rw [e] at ob;obtain⟨a,d,m,_,_,_,_,⟨_,_,o3⟩,g1,⟨od,es,ep,g2,_⟩,_⟩:=ob;rcases o3 b p q with rfl | rfl <;> simp_all
   | lst _ _=>rw [e] at ob;obtain⟨a,_,_,_,⟨_,o2⟩,g1,_⟩:=ob;rw [o2 b p q] at g;simp_all
   | sdic _ _=>rw [e] at ob;obtain⟨a,_,_,⟨_,o2⟩,⟨_,_,_,g1,_⟩,_⟩:=ob;rw [o2 b p q] at g;simp_all
   | dic _ _=>rw [e] at ob;obtain⟨a,_,⟨_,o2⟩,⟨_,_,_,g1,_⟩,_⟩:=ob;rw [o2 b p q] at g;simp_all
   | obar=>rw [e] at ob;obtain⟨a,d,lr,ld,_,_,_,_,⟨_,_,_,_,o5⟩,_,g1,⟨_,_,_,g2,_⟩,_,_,_,g3,⟨_,_,_,g4,_⟩,_⟩:=ob;rcases o5 b p q with rfl | rfl | rfl | rfl <;> simp_all
   | ntab _=>rw [e] at ob;obtain⟨a,_,⟨_,o2⟩,g1,_⟩:=ob;rw [o2 b p q] at g;simp_all
   | deck=>rw [e] at ob;obtain⟨a,c,e',⟨_,_,_,o4⟩,⟨_,_,_,_,_,_,g1,g2,g3,_⟩⟩:=ob;rcases o4 b p q with rfl | rfl | rfl <;> simp_all
 fresh:=x.fresh
 sym:=x.sym.mono (X:=NX) ⟨hz,fun _ _=>rfl,fun b o e _=>K b o e,fun b o e _ _=>⟨o.slots,K b o e⟩,fun b o e _ _=>K b o e,fun b o _ e _ d=>.same (K b o e) d (TbOk.keep (fun b o e _=>K b o e) fun _ _=>rfl),fun _ _ e=>⟨e,rfl⟩,fun _ _ e=>e,fun _ _=>rfl,rfl,fun _ e=>e⟩ ⟨rfl,rfl⟩
 obi:=x.obi
 sym0:=x.sym0
 lim:=x.lim.keeps K
 limf:=x.limf
 gens:=x.gens
 tkn e:=x.tkn (Nat.le_zero.mp (e ▸ ht))
theorem Kp.more(K:∀ b o,h.get? b=some o→h'.get? b=some o)(hz:h.objs.size≤h'.objs.size):Kp X γ h γ h' :=
 ⟨hz,fun _ _=>rfl,fun b o e _=>K b o e,fun b o e _ _=>⟨o.slots,K b o e⟩,fun b o e _ _=>K b o e,fun b o _ e _ d=>.same (K b o e) d (TbOk.keep (fun b o e _=>K b o e) fun _ _=>rfl),fun _ _ e=>⟨e,rfl⟩,fun _ _ e=>e,fun _ _=>rfl,rfl,fun _ e=>e⟩
theorem Rel.push(x:Rel Z w γ H n s)(o:Obj){t:Nat}(ht:s.toks≤t):Rel Z w γ H n { s with heap:=s.heap.push o,toks:=t }:=x.more (fun _ _ e=>Heap.get?_push_of_some o e) (by rw [Heap.size_push];exact Nat.le_succ _) ht
theorem Kp.push(o:Obj):Kp X γ h γ (h.push o):=.more (fun _ _ e=>Heap.get?_push_of_some o e) (by rw [Heap.size_push];exact Nat.le_succ _)
inductive AsInt(v:V)(k:Int→Bool)(rv:Value):Prop | mk (z:Int) (t:Tok):rv=.int z t→v=.a (.int z)→k z=true→AsInt v k rv
theorem asInt_ok{v:V}{k:Int→Bool}{rv:Value}(e:asInt v k=true)(x:VR Z γ h v rv):AsInt v k rv:=by
 cases v with
 | a c=>cases c with
  | int z=>obtain⟨t,q,_⟩:=x;exact⟨z,t,q,rfl,e⟩
  | _=>exact ff e
 | _=>exact ff e
inductive AsNat(k:Nat→Bool)(rv:Value):Prop | mk (z:Nat) (t:Tok):rv=.int (z:Nat) t→k z=true→AsNat k rv
theorem asNat_ok{v:V}{k:Nat→Bool}{rv:Value}(e:asNat v k=true)(x:VR Z γ h v rv):AsNat k rv:=by
 obtain⟨z,t,q,_,e⟩:=asInt_ok e x
 cases z with
 | ofNat z=>exact⟨z,t,q,e⟩
 | negSucc z=>exact ff e
theorem asNat_ok2{v:V}{k:Nat→Bool}{rv:Value}(e:asNat v k=true)(x:VR Z γ h v rv):∃ z t,rv=.int (.ofNat z) t∧v=.a (.int (.ofNat z))∧t≠0∧k z=true:=by
 cases v with
 | a c=>cases c with
  | int i=>cases i with
   | ofNat z=>obtain⟨t,q,e'⟩:=x;exact⟨z,t,q,rfl,e',e⟩
   | negSucc _=>exact ff e
  | _=>exact ff e
 | _=>exact ff e
theorem isDeck_ok{o:O}(e:isDeck o=true):o=.deck:=by
 cases o with
 | deck=>rfl
 | _=>exact ff e
theorem isObar_ok{o:O}(e:isObar o=true):o=.obar:=by
 cases o with
 | obar=>rfl
 | _=>exact ff e
theorem ntabAt_ok{o:O}{k:Nat→Bool}(e:ntabAt o k=true):∃ d,o=.ntab d∧k d=true:=by
 cases o with
 | ntab d=>exact⟨d,rfl,e⟩
 | _=>exact ff e
theorem isScr_ok{v:V}(e:isScr v=true):v=.a .scr:=by
 cases v with
 | a c=>cases c with
  | scr=>rfl
  | _=>exact ff e
 | _=>exact ff e
theorem isNo_ok{v:V}{rv:Value}(e:isNo v=true)(x:VR Z γ h v rv):rv=.none:=by
 cases v with
 | a c=>cases c with
  | none=>exact x
  | _=>exact ff e
 | _=>exact ff e
theorem asStr_ok{v:V}{ks:Nat→Bool}{k:Bool}(e:asStr v ks k=true):(∃ s,v=.a (.str s)∧ks s=true)∨k=true:=by
 cases v with
 | a c=>cases c with
  | str s=>exact .inl ⟨s,rfl,e⟩
  | _=>exact .inr e
 | _=>exact .inr e
inductive AsSn(γ:Gh)(v:V)(k:Nat→Bool)(rv:Value):Prop | mk (i:Nat) (a:Addr) (t:Tok):γ.sg i=some a→rv=.int (γ.nu i) t→v=.a (.symnum i)→k i=true→AsSn γ v k rv
theorem asSn_ok{v:V}{k:Nat→Bool}{rv:Value}(e:asSn v k=true)(x:VR Z γ h v rv):AsSn γ v k rv:=by
 cases v with
 | a c=>cases c with
  | symnum z=>obtain⟨a,t,q,q'⟩:=x;exact⟨z,a,t,q,q',rfl,e⟩
  | _=>exact ff e
 | _=>exact ff e
theorem asUp_ok{v:V}{k:Nat→Bool}{rv:Value}(e:asUp v k=true)(x:VR Z γ h v rv):∃ m,VUpto γ m rv∧k m=true:=by
 cases v with
 | a c=>cases c with
  | upto m=>exact⟨m,x,e⟩
  | _=>exact ff e
 | _=>exact ff e
inductive AsTup(v:V)(k:VL→Bool):Prop | mk (vs:VL):v=.tup vs→k vs=true→AsTup v k
theorem asTup_ok{v:V}{k:VL→Bool}(e:asTup v k=true):AsTup v k:=by
 cases v with
 | tup vs=>exact⟨vs,rfl,e⟩
 | _=>exact ff e
inductive AsRef(v:V)(k:Nat→Bool):Prop | mk (i:Nat):v=.ref i→k i=true→AsRef v k
theorem asRef_ok{v:V}{k:Nat→Bool}(e:asRef v k=true):AsRef v k:=by
 cases v with
 | ref vs=>exact⟨vs,rfl,e⟩
 | _=>exact ff e
inductive AsA(v:V)(k:C→Bool):Prop | mk (c:C):v=.a c→k c=true→AsA v k
theorem asA_ok{v:V}{k:C→Bool}(e:asA v k=true):AsA v k:=by
 cases v with
 | a vs=>exact⟨vs,rfl,e⟩
 | _=>exact ff e
theorem asBool_ok{v:V}{k:Bool→Bool}{rv:Value}(e:asBool v k=true)(x:VR Z γ h v rv):∃ b,rv=.bool b∧v=.a (.bool b)∧k b=true:=by
 cases v with
 | a c=>cases c with
  | bool z=>exact⟨z,x,rfl,e⟩
  | _=>exact ff e
 | _=>exact ff e
theorem odd_at{i:Nat}(q:i % 2=1):2 * (i / 2) + 1=i:=by rw [← q];exact Nat.div_add_mod i 2
theorem even_at{i:Nat}(h:i≠0)(q:¬ i % 2=1):2 * (i / 2 - 1) + 2=i:=by
 have e:i % 2=0:=(Nat.mod_two_eq_zero_or_one i).resolve_right q
 have d:2 * (i / 2)=i:=by have:=Nat.div_add_mod i 2;rw [e] at this;exact this
 have p:i / 2≠0:=fun z=>h (by rw [← d,z])
 rw [Nat.mul_sub,Nat.sub_add_cancel (Nat.mul_le_mul_left 2 (Nat.one_le_iff_ne_zero.mpr p)),d]
end
section
variable{Z:SA}{w:World}{hd:Bool}{X:Addr→Prop}{γ γ' γ₁:Gh}{h h':Heap}{s s' s₁:Shared}{H H':HT}{n n' N:Nat}{A:Around}{env:Env}{l:FL}{k kx:KV}{sc:List (PS × NameKind)}
inductive NewO(o:O)(H:HT)(n:Nat)(k:KV):Prop | mk (H':HT):k (.ref n) H' (n + 1)=true→(∀ j,H'.get j=if j=n then o else H.get j)→NewO o H n k
theorem newO_spec{o:O}(q:newO o H n k=true):NewO o H n k:=by
 obtain⟨H',a,b⟩:=HT.setK_spec (show H.setK o n (fun h'=>k (.ref n) h' (n + 1))=true from q)
 exact⟨H',a,b⟩
theorem setO_spec{i:Nat}{o:O}{k:HT→Bool}(q:setO i o H k=true):∃ H',k H'=true∧∀ j,H'.get j=if j=i then o else H.get j:=HT.setK_spec q
noncomputable def Gh.take(γ:Gh)(a:Addr)(o:Ow):Gh:={ γ with own:=fun b=>if b=a then o else γ.own b }
theorem Gh.take_self(γ:Gh)(a:Addr)(o:Ow):(γ.take a o).own a=o:=by simp [Gh.take]
theorem Gh.take_ne(γ:Gh){a b:Addr}(o:Ow)(e:b≠a):(γ.take a o).own b=γ.own b:=by simp [Gh.take,e]
set_option tactic.hygienic true in
theorem ChainOk.take{a c:Addr}(o:Ow)(x:ChainOk γ h c):c < a→ChainOk (γ.take a o) h c:=by
 induction x with
 | last g d f e=>exact fun lt=>.last g d ((Gh.take_ne _ _ (Nat.ne_of_lt lt)).trans f) e
 | next g d f e l _ ih=>exact fun lt=>.next g d ((Gh.take_ne _ _ (Nat.ne_of_lt lt)).trans f) e l (ih (Nat.lt_trans l lt))
theorem Kp.take{a:Addr}(o:Ow)(K:Kp X γ h γ h')(e:h.objs.size≤a)(fr:γ.own a≠.exn):Kp X γ h (γ.take a o) h' :=
 ⟨K.size,fun b hb=>by rw [Gh.take_ne _ _ (Nat.ne_of_lt (Nat.lt_of_lt_of_le hb e))],K.free,K.env,K.itr,fun b ob fs x y z=>by obtain⟨f,p,q,r,tb⟩:=K.exn b ob fs x y z;exact⟨f,p,q,r.imp id (fun⟨r1,⟨c,r2,r3,r4⟩⟩=>⟨r1,⟨c,r2,r3,r4.take o (Nat.lt_of_lt_of_le (Nat.lt_trans r3 (Heap.lt_size x)) e)⟩⟩),fun t=>by obtain⟨T,oT,ts,u1,u2,u3,u4,u5,u6⟩:=tb t;exact⟨T,oT,ts,u1,(Gh.take_ne _ _ (fun v=>fr (by rw [← v];exact u2))).trans u2,u3,u4,u5,u6⟩⟩,K.sg,K.rho,K.pre,K.scr,K.obi⟩
theorem VRs.take{a:Addr}{o:Ow}{v:VL}{rv:List Value}(x:Rel Z w γ H n s)(hz:s.heap.objs.size≤a)(K:∀ b o,s.heap.get? b=some o→h'.get? b=some o)(hz':s.heap.objs.size≤h'.objs.size)(r:VRs Z γ s.heap v rv):VRs Z (γ.take a o) h' v rv :=
 r.mono ((Kp.more (X:=NX) K hz').take o hz (by rw [x.freshFree hz];exact Ow.noConfusion)) x.bnd
theorem Rel.new1(x:Rel Z w γ H n s){ro:Obj}{o:O}(hH:∀ j,H'.get j=if j=n then o else H.get j){t:Nat}(ht:s.toks≤t)
  (ho:Own1 (γ.take s.heap.objs.size (.obj n 0)) n s.heap.objs.size→ObjR Z w (γ.take s.heap.objs.size (.obj n 0)) (s.heap.push ro) n o) :
  Rel Z w (γ.take s.heap.objs.size (.obj n 0)) H' (n + 1) { s with heap:=s.heap.push ro,toks:=t }:=by
 have K:Kp NX γ s.heap (γ.take s.heap.objs.size (.obj n 0)) (s.heap.push ro):=(Kp.push ro).take _ (Nat.le_refl _) (by rw [x.freshFree (Nat.le_refl _)];exact Ow.noConfusion)
 have fr:=x.freshFree (Nat.le_refl s.heap.objs.size)
 refine x.upd K ⟨rfl,rfl⟩ n (fun b i p _ q=>?_) (fun b i p e=>?_) ?_ (fun i e=>by rw [hH,if_neg e]) (fun b q=>?_) (Nat.le_succ n) (Nat.lt_succ_self n) (fun i e=>(x.fresh i (by omega)).2) (fun i e=>?_) (fun e=>e) rfl ht
 ·have lb:=x.bnd b (by rw [q];exact Ow.noConfusion)
  show (s.heap.push ro).get? b=s.heap.get? b
  unfold Heap.get? Heap.push
  simp [Array.getElem?_push,Nat.ne_of_lt lb]
 ·by_cases q:b=s.heap.objs.size
  ·subst q;rw [Gh.take_self,fr]
   constructor
   ·intro z;cases z;exact absurd rfl e
   ·intro z;cases z
  ·rw [Gh.take_ne _ _ q]
 ·rw [hH,if_pos rfl]
  refine ho ⟨Gh.take_self ..,fun b p q=>?_⟩
  by_cases e:b=s.heap.objs.size
  ·exact e
  ·rw [Gh.take_ne _ _ e] at q
   have:=x.obj n
   rw [(x.fresh n (Nat.le_refl n)).1] at this
   exact absurd q (this b p)
 ·show b < (s.heap.push ro).objs.size
  rw [Heap.size_push]
  by_cases e:b=s.heap.objs.size
  ·rw [e];exact Nat.lt_succ_self _
  ·rw [Gh.take_ne _ _ e] at q;exact Nat.lt_succ_of_lt (x.bnd b q)
 ·have:=x.obi i e
  rw [hH]
  by_cases q:i=n
  ·rw [q,(x.fresh n (Nat.le_refl n)).1] at this;cases this
  ·rw [if_neg q];exact this
theorem newList_ok{vs:VL}{ws:List Value}(x:Rel Z w γ H n s)(v:VRs Z γ s.heap vs ws)(hw:ws.length≤100)(q:newO (.lst 0 vs) H n k=true){t:Nat}(ht:s.toks≤t) :
  PostV Z w NX γ s k (.ref s.heap.objs.size) { s with heap:=s.heap.push { cls:=.type "list",data:=.seq ws.toArray },toks:=t }:=by
 obtain⟨H',q,hH⟩:=newO_spec q
 have hz:s.heap.objs.size≤(s.heap.push { cls:=.type "list",data:=.seq ws.toArray }).objs.size:=by rw [Heap.size_push];exact Nat.le_succ _
 refine ⟨_,H',n + 1,_,q,x.new1 hH ht fun o=>?_,(Kp.push _).take _ (Nat.le_refl _) (by rw [x.freshFree (Nat.le_refl _)];exact Ow.noConfusion),.ref (Gh.take_self ..),rfl,rfl,rfl⟩
 exact⟨_,[],ws,0,o,Heap.get?_push_size _ rfl,by unfold PreR;rw [if_pos rfl],v.take x (Nat.le_refl _) (fun _ _ e=>Heap.get?_push_of_some _ e) hz,by simp,hw⟩
inductive PostVs(Z:SA)(w:World)(γ:Gh)(s:Shared)(len:Nat)(k:VL→HT→Nat→Bool)(rvs:List Value)(s':Shared):Prop
 | mk (vs:VL) (H:HT) (n:Nat) (γ':Gh):k vs H n=true→Rel Z w γ' H n s'→Kp NX γ s.heap γ' s'.heap→VRs Z γ' s'.heap vs rvs→rvs.length=len→Fro s s'→PostVs Z w γ s len k rvs s'
noncomputable def SndEs(Z:SA)(w:World)(sc:List (PS × NameKind))(m:EMs)(es:List PX):Prop:=(∀ (env:Env) (pos:Pos),(backTo pos (starEach es env)).any (·.1)=false) ∧
 ∀ (N:Nat) (hd:Bool) (A:Around) (env:Env) (l:FL) (H:HT) (n:Nat) (k:VL→HT→Nat→Bool) (kx:KV) (γ:Gh) (s:Shared) (pos:Pos),
  Pre Z w N hd A env sc l H n γ s→m (mk fnT FDeed N hd) l H n k kx=true→wpAny (model prog w) A (spliced (backTo pos (starEach es env))) (PostVs Z w γ s es.length k) (PostX Z w NX γ s kx) s
noncomputable def plainE:PX→Bool
 | .Starred ..=>false
 | _=>true
theorem starEach_plain{e:PX}(he:plainE e=true)(r:List PX)(env:Env):starEach (e :: r) env=(false,eval e env) :: starEach r env:=by
 cases e <;> first | rfl | cases he
theorem ss_nil:SndEs Z w sc Xn []:=⟨fun _ _=>rfl,fun N hd A env l H n k kx γ s pos P q=>spliced_none ⟨[],H,n,γ,q,P.r,.refl ..,.nil,rfl,.refl _⟩⟩
theorem ss_cons{m:EM}{ms:EMs}{e:PX}{es:List PX}(x:SndE Z w sc m e)(y:SndEs Z w sc ms es)(he:plainE e=true):SndEs Z w sc (Xc m ms) (e :: es):=by
 refine ⟨fun env pos=>?_,fun N hd A env l H n k kx γ s pos P q=>?_⟩
 ·rw [starEach_plain he];exact y.1 env pos
 ·refine spliced_more ?_ (starEach_plain he _ _)
  refine wpAny_mono (x.at P q) (fun rv s' z=>?_) fun _ _ z=>z
  obtain⟨v,H',n',γ',a,b,c,d,e⟩:=z
  refine wpAny_mono (y.2 N hd A env l H' n' _ kx γ' s' pos (P.go c b) a) (fun rvs s'' z=>?_) fun _ _ z=>z.up c e
  obtain⟨vs,H'',n'',γ'',a',b',c',d',e',f'⟩:=z
  exact⟨_,H'',n'',γ'',a',b',c.trans c',.cons (d.mono c' b.bnd) d',by rw [List.length_cons,e',List.length_cons],e.trans f'⟩
theorem len_fits{m:Nat}(h:m≤100):m≤sizeLine:=Nat.le_trans h (by decide)
theorem sE_list{ms:EMs}{es:List PX}{p:Pos}(x:SndEs Z w sc ms es)(hl:es.length≤100):SndE Z w sc (eList ms) (.List es p):=sndE fun N hd A env l H n k kx γ s P q=>by
 refine wpAny_List_spliced (wpAny_mono (x.2 N hd A env l H n _ kx γ s p P q) (fun rvs s' z=>?_) fun _ _ z=>z)
 obtain⟨vs,H',n',γ',a,b,c,d,e,f⟩:=z
 rw [e]
 exact⟨len_fits hl,(newList_ok b d (by rw [e];exact hl) a (Nat.le_refl s'.toks)).up c f⟩
theorem sE_tup{ms:EMs}{es:List PX}{i:Nat}{p:Pos}(x:SndEs Z w sc ms es)(hl:es.length≤100):SndE Z w sc (eTup ms) (.Tuple es i p):=sndE fun N hd A env l H n k kx γ s P q=>by
 refine wpAny_Tuple_spliced (wpAny_mono (x.2 N hd A env l H n _ kx γ s p P q) (fun rvs s' z=>?_) fun _ _ z=>z)
 obtain⟨vs,H',n',γ',a,b,c,d,e,f⟩:=z
 rw [e]
 refine ⟨len_fits hl,PostV.up c f ⟨_,H',n',γ',a,b.push _ (Nat.le_refl _),.push _,?_,rfl,rfl,rfl⟩⟩
 exact .tup (Heap.get?_push_size _ rfl) (b.freshFree (Nat.le_refl _)) (d.mono (Kp.push (X:=NX) _) b.bnd)
inductive PostB(Z:SA)(w:World)(γ:Gh)(s:Shared)(k:Bool→HT→Nat→Bool)(b:Bool)(s':Shared):Prop
 | mk (H:HT) (n:Nat) (γ':Gh):k b H n=true→Rel Z w γ' H n s'→Kp NX γ s.heap γ' s'.heap→Fro s s'→PostB Z w γ s k b s'
theorem PostB.up{k:Bool→HT→Nat→Bool}{b:Bool}(K:Kp NX γ s.heap γ' s'.heap)(F:Fro s s')(x:PostB Z w γ' s' k b s₁):PostB Z w γ s k b s₁ :=
 let ⟨H,n,γ'',a,b,c,d⟩:=x;⟨H,n,γ'',a,b,K.trans c,F.trans d⟩
noncomputable def asValue:PX→Bool
 | .Name .. | .Call .. | .Attribute .. | .Subscript .. | .Constant ..=>true
 | _=>false
noncomputable def SndT(Z:SA)(w:World)(sc:List (PS × NameKind))(m:TM)(e:PX):Prop:=∀ (N:Nat) (hd:Bool) (A:Around) (env:Env) (l:FL) (H:HT) (n:Nat) (k:Bool→HT→Nat→Bool) (kx:KV) (γ:Gh) (s:Shared),
 Pre Z w N hd A env sc l H n γ s→m (mk fnT FDeed N hd) l H n k kx=true→∀ whole,(asValue e=true→whole=eval e env)→wpAny (model prog w) A (isTrue e env whole) (PostB Z w γ s k) (PostX Z w NX γ s kx) s
theorem sT_e{m:EM}{e:PX}(x:SndE Z w sc m e)(he:asValue e=true):SndT Z w sc (tE m) e:=fun N hd A env l H n k kx γ s P q whole ew=>by
 obtain rfl:=ew he
 refine isTrue_plain ?_ (by cases e <;> first | rfl | cases he)
 refine wpAny_mono (x.at P q) (fun rv s' z=>?_) fun _ _ z=>z
 obtain⟨v,H',n',γ',a,b,c,d,f⟩:=z
 obtain⟨r,rfl,_,a⟩:=asBool_ok a d
 exact wpAny_truthy_bool ⟨H',n',γ',a,b,c,f⟩
theorem notB_eq(b:Bool):notB b=!b:=by cases b <;> rfl
theorem sT_not{m:TM}{e:PX}{p:Pos}(x:SndT Z w sc m e):SndT Z w sc (tNot m) (.UnaryOp .Not e p):=fun N hd A env l H n k kx γ s P q whole _=>by
 refine isTrue_not (wpAny_mono (x N hd A env l H n _ kx γ s P q _ fun _=>rfl) (fun b s' z=>?_) fun _ _ z=>z)
 obtain⟨H',n',γ',a,z1,z2,z3⟩:=z
 exact⟨H',n',γ',notB_eq b ▸ a,z1,z2,z3⟩
theorem sT_and0{p:Pos}:SndT Z w sc tTrue (.BoolOp .And [] p):=fun _ _ _ _ _ H n _ _ γ _ P q _ _=>isTrue_and_nil ⟨H,n,γ,q,P.r,.refl ..,.refl _⟩
theorem sT_or0{p:Pos}:SndT Z w sc tFalse (.BoolOp .Or [] p):=fun _ _ _ _ _ H n _ _ γ _ P q _ _=>isTrue_or_nil ⟨H,n,γ,q,P.r,.refl ..,.refl _⟩
theorem sT_and{m r:TM}{e:PX}{es:List PX}{p:Pos}(x:SndT Z w sc m e)(y:SndT Z w sc r (.BoolOp .And es p)):SndT Z w sc (tAnd m r) (.BoolOp .And (e :: es) p):=fun N hd A env l H n k kx γ s P q whole _=>by
 refine isTrue_and (wpAny_mono (x N hd A env l H n _ kx γ s P q _ fun _=>rfl) (fun b s' z=>?_) fun _ _ z=>z)
 obtain⟨H',n',γ',a,R,K,F⟩:=z
 cases b with
 | false=>exact⟨H',n',γ',a,R,K,F⟩
 | true=>exact wpAny_mono (y N hd A env l H' n' k kx γ' s' (P.go K R) a _ (fun e=>nomatch e)) (fun _ _ z=>z.up K F) fun _ _ z=>z.up K F
theorem sT_or{m r:TM}{e:PX}{es:List PX}{p:Pos}(x:SndT Z w sc m e)(y:SndT Z w sc r (.BoolOp .Or es p)):SndT Z w sc (tOr m r) (.BoolOp .Or (e :: es) p):=fun N hd A env l H n k kx γ s P q whole _=>by
 refine isTrue_or (wpAny_mono (x N hd A env l H n _ kx γ s P q _ fun _=>rfl) (fun b s' z=>?_) fun _ _ z=>z)
 obtain⟨H',n',γ',a,R,K,F⟩:=z
 cases b with
 | true=>exact⟨H',n',γ',a,R,K,F⟩
 | false=>exact wpAny_mono (y N hd A env l H' n' k kx γ' s' (P.go K R) a _ (fun e=>nomatch e)) (fun _ _ z=>z.up K F) fun _ _ z=>z.up K F
theorem sE_ite{t:TM}{a b:EM}{e₁ e₂ e₃:PX}{p:Pos}(x:SndT Z w sc t e₁)(y:SndE Z w sc a e₂)(z:SndE Z w sc b e₃):SndE Z w sc (eIte t a b) (.IfExp e₁ e₂ e₃ p):=sndE fun N hd A env l H n k kx γ s P q=>by
 refine wpAny_IfExp (wpAny_mono (x N hd A env l H n _ kx γ s P q _ fun _=>rfl) (fun b s' u=>?_) fun _ _ z=>z)
 obtain⟨H',n',γ',a,R,K,F⟩:=u
 cases b with
 | true=>exact up K F (y.at (P.go K R) a)
 | false=>exact up K F (z.at (P.go K R) a)
end
section
variable{Z:SA}{w:World}{hd:Bool}{X:Addr→Prop}{γ γ' γ₁:Gh}{h h':Heap}{s s' s₁:Shared}{H H':HT}{n n' N:Nat}{A:Around}{env:Env}{l:FL}{k kx:KV}{sc:List (PS × NameKind)}
noncomputable def gcOk(Z:SA)(c:C)(rv:Value):Bool:=match c with
 | .none=>rv == .none
 | .int z=>(match rv with | .int y t=>z == y && t != 0 | _=>false)
 | .str i=>(match rv with | .str x _=>x == nmS i && decide (i < names.length) | _=>false)
 | .fn k=>rv == .ref (Z.fnA k)
 | .cls c=>rv == .ref (Z.clA c)
 | .blt b=>rv == bltV b
 | .sym s=>(s == 0 && rv == .ref Z.nilA) || (s == 1 && rv == .ref Z.teeA)
 | _=>false
noncomputable def gvOk(Z:SA)(v:V)(rv:Value):Bool:=match v with | .a c=>gcOk Z c rv | _=>false
theorem gv_ok{v:V}{rv:Value}(R:Rel Z w γ H n s)(e:gvOk Z v rv=true):VR Z γ s.heap v rv:=by
 cases v with
 | a c=>cases c with
  | none | fn | cls | blt=>exact eq_of_beq e
  | int z=>cases rv with
   | int y t=>obtain⟨h1,h2⟩:=Bool.and_eq_true_iff.mp e;obtain rfl:=eq_of_beq h1;exact .int _ _ (bne_iff_ne.mp h2)
   | _=>exact ff e
  | str i=>cases rv with
   | str x t=>obtain⟨h1,h2⟩:=Bool.and_eq_true_iff.mp e;exact .str t (of_decide_eq_true h2) (eq_of_beq h1)
   | _=>exact ff e
  | sym i =>
   rcases Bool.or_eq_true_iff.mp e with e | e <;> (obtain⟨h1,h2⟩:=Bool.and_eq_true_iff.mp e;obtain rfl:=eq_of_beq h1;obtain rfl:=eq_of_beq h2)
   ·exact .sym R.sym.nil.1
   ·exact .sym R.sym.tee.1
  | _=>exact ff e
 | _=>exact ff e
noncomputable def globIn(K:Frag)(x:PS):Option Value:=match nsIn K mainGlobals x with
 | some (some v)=>some v
 | some none=>(nsIn K builtinsNs x).join
 | none=>none
noncomputable def gloOk(Z:SA)(w:World)(x:PS)(v:V):Bool:=(globIn (Z.K w.params) x).any (gvOk Z v)
set_option tactic.hygienic true in
theorem loadGlobal_ok{x:PS}{rv:Value}{Q:Value→Shared→Prop}{E:Value→Shared→Prop}(st:(Z.K w.params).In s.heap)(e:globIn (Z.K w.params) x=some rv)(hg:env.globals=mainGlobals)(hb:env.builtins=builtinsNs)(q:Q rv s) :
  wpAny (model prog w) A (loadGlobal env x) Q E s:=by
 unfold globIn at e
 unfold loadGlobal
 rw [hg,hb]
 split at e
 ·rename_i v hv;cases e
  exact wpAny_bind ((looks_nsIn st hv).here (wpAny_pure q))
 ·rename_i hv
  have e:nsIn (Z.K w.params) builtinsNs x=some (some rv):=by
   cases q:nsIn (Z.K w.params) builtinsNs x with
   | none=>rw [q] at e;cases e
   | some o=>rw [q] at e;cases o with | none=>cases e | some v=>cases e;rfl
  refine wpAny_bind ((looks_nsIn st hv).here ?_)
  exact wpAny_bind ((looks_nsIn st e).here (wpAny_pure q))
 ·cases e
theorem loadName_global{x:PS}{Q:Value→Shared→Prop}{E:Value→Shared→Prop}(hk:env.scope.kind=.function)(hl:env.kindOf x=some .globalImplicit)(q:wpAny (model prog w) A (loadGlobal env x) Q E s):wpAny (model prog w) A (loadName env x) Q E s:=by
 unfold loadName
 simp only [Env.blockKind,hk,hl,ScopeKind.isAnnotationScope,Bool.false_and,Bool.false_eq_true,if_false]
 exact q
theorem sE_glo{v:V}{x:PS}{p:Pos}(hk:sc.lookup x=some .globalImplicit)(e:gloOk Z w x v=true)(hd:(x == ("__debug__" : PS))=false):SndE Z w sc (Xg v) (.Name x p):=sndE fun N hd' A env l H n k kx γ s P q=>by
 unfold gloOk at e
 obtain⟨rv,e1,e2⟩:∃ rv,globIn (Z.K w.params) x=some rv∧gvOk Z v rv=true:=by
  cases g:globIn (Z.K w.params) x with
  | none=>rw [g] at e;cases e
  | some rv=>rw [g] at e;exact⟨rv,rfl,e⟩
 exact wpAny_Name (loadName_global P.es.kind (P.ec _ _ hk (by intro z;cases z)) (loadGlobal_ok P.r.st e1 P.es.glob P.es.blt (ok q P.r (gv_ok P.r e2)))) hd
noncomputable def SndB(Z:SA)(w:World)(sc:List (PS × NameKind))(op:BoolOp)(m:EM)(es:List PX):Prop:=∀ (N:Nat) (hd:Bool) (A:Around) (env:Env) (l:FL) (H:HT) (n:Nat) (k kx:KV) (γ:Gh) (s:Shared) (pos:Pos),
 Pre Z w N hd A env sc l H n γ s→m (mk fnT FDeed N hd) l H n k kx=true→wpAny (model prog w) A (boolOp pos op (evalEach es env)) (PostV Z w NX γ s k) (PostX Z w NX γ s kx) s
theorem sB_one{op:BoolOp}{m:EM}{e:PX}(x:SndE Z w sc m e):SndB Z w sc op m [e]:=fun N hd A env l H n k kx γ s pos P q=>x.at P q
theorem sB_and{m r:EM}{e e':PX}{es:List PX}(x:SndE Z w sc m e)(y:SndB Z w sc .And r (e' :: es)):SndB Z w sc .And (eAnd m r) (e :: e' :: es):=fun N hd A env l H n k kx γ s pos P q=>by
 show wpAny (model prog w) A (eval e env >>= _) _ _ _
 refine x.bind P q fun v H' n' γ' rv s' a P' K vr=>wpAny_bind (wpAny_standAt ?_)
 obtain⟨r,rfl,_,a⟩:=asBool_ok a vr
 refine wpAny_bind (wpAny_holding (wpAny_truthy_bool ?_))
 cases r with
 | true=>exact y N hd A env l H' n' k kx γ' s' pos P' a
 | false=>exact wpAny_pure (ok a P'.r (.bool _))
theorem sB_or{m r:EM}{e e':PX}{es:List PX}(x:SndE Z w sc m e)(y:SndB Z w sc .Or r (e' :: es)):SndB Z w sc .Or (eOr m r) (e :: e' :: es):=fun N hd A env l H n k kx γ s pos P q=>by
 show wpAny (model prog w) A (eval e env >>= _) _ _ _
 refine x.bind P q fun v H' n' γ' rv s' a P' K vr=>wpAny_bind (wpAny_standAt ?_)
 obtain⟨r,rfl,_,a⟩:=asBool_ok a vr
 refine wpAny_bind (wpAny_holding (wpAny_truthy_bool ?_))
 cases r with
 | false=>exact y N hd A env l H' n' k kx γ' s' pos P' a
 | true=>exact wpAny_pure (ok a P'.r (.bool _))
theorem sE_bool2{op:BoolOp}{m:EM}{es:List PX}{p:Pos}(x:SndB Z w sc op m es):SndE Z w sc m (.BoolOp op es p):=sndE fun N hd A env l H n k kx γ s P q=>x N hd A env l H n k kx γ s p P q
theorem sE_neg{m:EM}{e:PX}{p:Pos}(x:SndE Z w sc m e):SndE Z w sc (eNeg m) (.UnaryOp .USub e p):=sndE fun N hd A env l H n k kx γ s P q=>by
 rw [arm_eval_UnaryOp]
 refine x.bind P q fun v H' n' γ' rv s' a P' K vr=>wpAny_bind (wpAny_standAt (wpAny_holding ?_))
 obtain⟨m,t,rfl,a⟩:=asNat_ok a vr
 cases m with
 | zero=>exact ff a
 | succ m=>exact neg_int (okT (v:=.a (.int (.negSucc m))) a P'.r (.int _ _ P'.r.tkn) (Nat.le_succ _))
end
end Mine
end
section
open PySem renaming Expr→PX,Str→PS
open PySem PySem.W PySem.Calls PyProof.Rows PySem.SeqAt
namespace Mine
noncomputable def kS(s:PS):Nat:=s.cps.toList.foldl (fun a c=>Nat.add (Nat.mul a 2097152) c) 1
noncomputable def nod(l:List Nat):Bool:=@List.rec Nat (fun _=>Bool) true (fun y r ih=>@Bool.rec (fun _=>Bool) ih false (memN r y)) l
theorem mem_memN{l:List Nat}{x:Nat}(h:x∈l):memN l x=true:=by
 induction h with
 | head r =>
  show @Bool.rec (fun _=>Bool) (memN r x) true (Nat.beq x x)=true
  rw [Nat.beq_refl]
 | @tail y r _ ih =>
  show @Bool.rec (fun _=>Bool) (memN r x) true (Nat.beq y x)=true
  cases Nat.beq y x
  ·exact ih
  ·rfl
theorem nod_ok{l:List Nat}(e:nod l=true):l.Nodup:=by
 induction l with
 | nil=>exact .nil
 | cons y r ih =>
  obtain⟨a,b⟩:=brecF e
  exact List.nodup_cons.mpr ⟨fun h=>ff (a.symm.trans (mem_memN h)),ih b⟩
theorem names_nodup:(names.map PySem.Str.ofString).Nodup:=List.Pairwise.of_map kS (fun _ _ h e=>h (congrArg kS e)) (nod_ok (by kernel_rfl))
theorem nmS_inj{i j:Nat}(hi:i < names.length)(hj:j < names.length)(e:nmS i=nmS j):i=j:=by
 have ei:(names.map PySem.Str.ofString)[i]?=some (nmS i):=by rw [List.getElem?_map];unfold nmS;rw [List.getD_eq_getElem?_getD,List.getElem?_eq_getElem hi];rfl
 have ej:(names.map PySem.Str.ofString)[j]?=some (nmS j):=by rw [List.getElem?_map];unfold nmS;rw [List.getD_eq_getElem?_getD,List.getElem?_eq_getElem hj];rfl
 refine (List.getElem?_inj (by rw [List.length_map];exact hi) names_nodup).mp ?_
 rw [ei,ej,e]
structure ZOk(Z:SA):Prop where
 clInj:∀ c d cd dd,clT.get c=some cd→clT.get d=some dd→Z.clA c=Z.clA d→c=d
theorem cl2:clT.get 2=some c2:=by kernel_rfl
theorem c2f:c2.fields=[]:=rfl
section
variable{Z:SA}{w:World}{hd:Bool}{X:Addr→Prop}{γ γ' γ₁:Gh}{h h':Heap}{s s' s₁:Shared}{H H':HT}{n n' N:Nat}{A:Around}{env:Env}{l:FL}{k kx:KV}{sc:List (PS × NameKind)}
set_option tactic.hygienic true in
theorem Ns_fun{d:Addr}{m m':PS→Option Value}(x:h.Ns d m)(y:h.Ns d m'):m=m':=by
 obtain⟨o,es,ep,ho,hd,_,q⟩:=x
 obtain⟨o',es',ep',ho',hd',_,q'⟩:=y
 rw [ho] at ho';cases ho'
 rw [hd] at hd';cases hd'
 funext y;rw [← q,← q']
theorem map_some_inj{l l':List Value}(e:l.map some=l'.map some):l=l':=by
 induction l generalizing l' with
 | nil=>cases l' with | nil=>rfl | cons _ _=>cases e
 | cons a r ih=>cases l' with
  | nil=>cases e
  | cons b t=>simp only [List.map_cons,List.cons.injEq,Option.some.injEq] at e;rw [e.1,ih e.2]
noncomputable def vsh(v:Value):Nat:=match v with | .none=>0 | .bool _=>1 | .int ..=>2 | .str ..=>3 | .ref _=>4 | _=>5
theorem V.sh_ok{v:V}{rv:Value}(x:VR Z γ h v rv)(e:Nat.ble (V.sh v) 4=true):vsh rv=V.sh v:=by
 cases v with
 | a c=>cases c with
  | none | bool=>cases x;rfl
  | int | str | sym=>obtain⟨_,rfl,_⟩:=x;rfl
  | num=>obtain⟨_,_,_,rfl⟩:=x;rfl
  | symnum=>obtain⟨_,_,_,rfl⟩:=x;rfl
  | upto=>obtain⟨_,_,rfl,_⟩:=x;rfl
  | _=>exact ff e
 | ref=>obtain⟨_,rfl,_⟩:=x;rfl
 | obj=>obtain⟨_,_,_,_,_,rfl,_⟩:=x.objI;rfl
 | tup=>obtain⟨_,_,_,rfl,_⟩:=x.tupI;rfl
 | _=>exact ff e
theorem shInt{v:V}{rv:Value}(x:VR Z γ h v rv)(e:V.sh v=2):∃ z t,rv=.int z t:=by
 have q:=V.sh_ok x (by rw [e];rfl)
 rw [e] at q
 cases rv with
 | int z t=>exact⟨z,t,rfl⟩
 | _=>cases q
theorem sz_list(l:List V):@V.rec_1 (fun _=>Nat) (fun _=>Nat) (fun c=>match c with | .none | .bool _ | .int _ | .num _ _ | .upto _ | .str _ | .sym _ | .symnum _=>1 | _=>1000000) (fun _=>1) (fun _ _ ih=>Nat.add ih 1) (fun _ ih=>Nat.add ih 1) (fun _ _ _=>1000000) (fun _ _ _=>1000000) 0 (fun _ _ a b=>Nat.add a b) l=VL.sz l:=by
 induction l with
 | nil=>rfl
 | cons a r ih=>exact congrArg (V.sz a + ·) ih
theorem sz_tup(vs:VL):V.sz (.tup vs)=VL.sz vs + 1:=congrArg (· + 1) (sz_list vs)
theorem sz_obj(c:Nat)(vs:VL):V.sz (.obj c vs)=VL.sz vs + 1:=congrArg (· + 1) (sz_list vs)
theorem sz_cons(v:V)(vs:VL):VL.sz (v :: vs)=V.sz v + VL.sz vs:=rfl
theorem szBig{P:Prop}(e:1000000 < 1000000):P:=absurd e (Nat.lt_irrefl _)
theorem sz_a_lt{c:C}(e:V.sz (.a c) < 1000000):V.sz (.a c)=1:=by
 cases c <;> first | rfl | exact szBig e
theorem objEq{a d d':Addr}{c c':Value}(e:h.get? a=some ⟨c,some d,.plain,#[]⟩)(e':h.get? a=some ⟨c',some d',.plain,#[]⟩):c=c'∧d=d':=by
 rw [e] at e';cases e';exact⟨rfl,rfl⟩
theorem symNot(O:ZOk Z)(R:Rel Z w γ H n s){c:Nat}{cd:CD}{a d:Addr}{m:PS→Option Value}{i:Nat}(hc:clT.get c=some cd)(e:s.heap.get? a=some ⟨.ref (Z.clA c),some d,.plain,#[]⟩)(n:s.heap.Ns d m)(u:∀ y v,m y=some v→∃ x∈cd.fields,nmS x=y)(q:γ.sg i=some a):False:=by
 obtain⟨_,_,d',m',t1,t2,g,_,nsd,r2,r3,_⟩:=R.sym.at_ _ _ q
 obtain⟨ec,rfl⟩:=objEq e g
 obtain rfl:=O.clInj _ _ _ _ hc cl2 (Value.ref.inj ec)
 rw [cl2] at hc;cases hc
 obtain rfl:=Ns_fun n nsd
 obtain⟨x,hx,_⟩:=u _ _ r2
 rw [c2f] at hx;cases hx
theorem obj2(O:ZOk Z)(R:Rel Z w γ H n s){c:Nat}{fs:VL}{v':V}{rv:Value}(x:VR Z γ s.heap (.obj c fs) rv)(y:VR Z γ s.heap v' rv)(hv:V.sz v' < 1000000):∃ fs' rvs,v'=.obj c fs'∧VRs Z γ s.heap fs rvs∧VRs Z γ s.heap fs' rvs:=by
 obtain⟨cd,a,d,m,rvs,rfl,hc,e,f,g,n,r,q,u,k⟩:=x.objI
 cases v' with
 | a c'=>cases c' with
  | sym i=>obtain⟨b,eb,q'⟩:=y;cases eb;exact (symNot O R hc e n u q').elim
  | none | bool=>cases y
  | int | str=>obtain⟨_,z,_⟩:=y;cases z
  | num=>obtain⟨_,_,_,z⟩:=y;cases z
  | symnum=>obtain⟨_,_,_,z⟩:=y;cases z
  | upto=>obtain⟨_,_,z,_⟩:=y;cases z
  | _=>exact szBig hv
 | ref i=>obtain⟨b,eb,q'⟩:=y;cases eb;rw [f] at q';cases q'
 | obj c' fs' =>
  obtain⟨cd',a',d',m',rvs',eb,hc',e',f',g',n',r',q',u',k'⟩:=y.objI
  cases eb
  obtain⟨ec,rfl⟩:=objEq e e'
  obtain rfl:=O.clInj _ _ _ _ hc hc' (Value.ref.inj ec)
  rw [hc] at hc';cases hc'
  obtain rfl:=Ns_fun n n'
  obtain rfl:=map_some_inj (q.symm.trans q')
  exact⟨_,_,rfl,r,r'⟩
 | tup fs'=>obtain⟨_,_,_,eb,e',_⟩:=y.tupI;cases eb;rw [e] at e';cases e'
 | _=>exact szBig hv
theorem tup2(O:ZOk Z)(R:Rel Z w γ H n s){fs:VL}{v':V}{rv:Value}(x:VR Z γ s.heap (.tup fs) rv)(y:VR Z γ s.heap v' rv)(hv:V.sz v' < 1000000):∃ fs' rvs,v'=.tup fs'∧VRs Z γ s.heap fs rvs∧VRs Z γ s.heap fs' rvs:=by
 obtain⟨ws,a,k,rfl,e,f,r⟩:=x.tupI
 cases v' with
 | a c'=>cases c' with
  | sym i=>obtain⟨b,eb,q'⟩:=y;cases eb;obtain⟨_,_,d',m',t1,t2,g,_⟩:=R.sym.at_ _ _ q';rw [e] at g;cases g
  | none | bool=>cases y
  | int | str=>obtain⟨_,z,_⟩:=y;cases z
  | num=>obtain⟨_,_,_,z⟩:=y;cases z
  | symnum=>obtain⟨_,_,_,z⟩:=y;cases z
  | upto=>obtain⟨_,_,z,_⟩:=y;cases z
  | _=>exact szBig hv
 | ref i=>obtain⟨b,eb,q'⟩:=y;cases eb;rw [f] at q';cases q'
 | obj c' fs' =>
  obtain⟨cd',a',d',m',rvs',eb,hc',e',_⟩:=y.objI
  cases eb;rw [e] at e';cases e'
 | tup fs' =>
  obtain⟨ws',_,_,eb,e',f',r'⟩:=y.tupI
  cases eb;rw [e] at e'
  obtain rfl:ws=ws':=by cases e';rfl
  exact⟨_,_,rfl,r,r'⟩
 | _=>exact szBig hv
theorem sz_eq2(O:ZOk Z)(R:Rel Z w γ H n s):(∀ v:V,∀ (v':V) (rv:Value),VR Z γ s.heap v rv→VR Z γ s.heap v' rv→V.sz v < 1000000→V.sz v' < 1000000→V.sz v=V.sz v') ∧
  ∀ (vs vs':VL) (rvs:List Value),VRs Z γ s.heap vs rvs→VRs Z γ s.heap vs' rvs→VL.sz vs < 1000000→VL.sz vs' < 1000000→VL.sz vs=VL.sz vs':=by
 have one:∀ {v v':V} {rv:Value},V.sz v=1→(∀ c fs,v≠.obj c fs)→(∀ fs,v≠.tup fs)→VR Z γ s.heap v rv→VR Z γ s.heap v' rv→V.sz v' < 1000000→V.sz v=V.sz v':=by
  intro v v' rv e n1 n2 x y h
  rw [e]
  cases v' with
  | a c=>exact (sz_a_lt h).symm
  | ref=>rfl
  | obj c fs=>obtain⟨_,_,z,_⟩:=obj2 O R y x (by rw [e];decide);exact absurd z (n1 _ _)
  | tup fs=>obtain⟨_,_,z,_⟩:=tup2 O R y x (by rw [e];decide);exact absurd z (n2 _)
  | _=>exact szBig h
 refine V.ind (fun c v' rv x y h h'=>one (sz_a_lt h) nofun nofun x y h') (fun i v' rv x y h h'=>one rfl nofun nofun x y h') (fun c fs ih v' rv x y h h'=>?_) (fun fs ih v' rv x y h h'=>?_) (fun _ _ _ _ _ _ _ h=>szBig h) (fun _ _ _ _ _ _ _ h=>szBig h) (fun vs' rvs x y _ _=>?_) (fun v vs ih1 ih2 vs' rvs x y h h'=>?_)
 ·obtain⟨fs',rvs,rfl,r,r'⟩:=obj2 O R x y h'
  rw [sz_obj] at h h' ⊢;rw [sz_obj,ih _ _ r r' (Nat.lt_of_succ_lt h) (Nat.lt_of_succ_lt h')]
 ·obtain⟨fs',rvs,rfl,r,r'⟩:=tup2 O R x y h'
  rw [sz_tup] at h h' ⊢;rw [sz_tup,ih _ _ r r' (Nat.lt_of_succ_lt h) (Nat.lt_of_succ_lt h')]
 ·obtain rfl:=x.nilI
  cases vs' with
  | nil=>rfl
  | cons _ _=>obtain⟨_,_,z,_⟩:=y.consI;cases z
 ·obtain⟨w,ws,rfl,x1,x2⟩:=x.consI
  cases vs' with
  | nil=>cases y.nilI
  | cons _ _ =>
   obtain⟨_,_,z,y1,y2⟩:=y.consI
   cases z
   rw [sz_cons] at h h' ⊢
   rw [sz_cons,ih1 _ _ x1 y1 (Nat.lt_of_le_of_lt (Nat.le_add_right _ _) h) (Nat.lt_of_le_of_lt (Nat.le_add_right _ _) h'),ih2 _ _ x2 y2 (Nat.lt_of_le_of_lt (Nat.le_add_left _ _) h) (Nat.lt_of_le_of_lt (Nat.le_add_left _ _) h')]
end
section
variable{Z:SA}{w:World}{hd:Bool}{X:Addr→Prop}{γ γ' γ₁:Gh}{h h':Heap}{s s' s₁:Shared}{H H':HT}{n n' N:Nat}{A:Around}{env:Env}{l:FL}{k kx:KV}{sc:List (PS × NameKind)}
theorem Own2.at0{i:Nat}{a d b:Addr}(x:Own2 γ i a d)(o:γ.own b=.obj i 0):b=a :=
 (x.f3 _ _ o).elim id fun z=>by rw [z,x.f2] at o;cases o
theorem Own3.at0{i:Nat}{a c e b:Addr}(x:Own3 γ i a c e)(o:γ.own b=.obj i 0):b=a :=
 (x.f4 _ _ o).elim id fun z=>z.elim (fun z=>by rw [z,x.f2] at o;cases o) fun z=>by rw [z,x.f3] at o;cases o
theorem Own4.at0{i:Nat}{a d lr ld b:Addr}(x:Own4 γ i a d lr ld)(o:γ.own b=.obj i 0):b=a :=
 (x.f5 _ _ o).elim id fun z=>z.elim (fun z=>by rw [z,x.f2] at o;cases o) fun z=>z.elim (fun z=>by rw [z,x.f3] at o;cases o) fun z=>by rw [z,x.f4] at o;cases o
inductive LstJ(Z:SA)(γ:Gh)(h:Heap)(p:Nat)(vs:VL)(a:Addr):Prop | mk (pre ws:List Value) (m:Nat):h.get? a=some ⟨.type "list",none,.seq (pre ++ ws).toArray m,#[]⟩→PreR γ h p pre→VRs Z γ h vs ws→pre.length≤1000→ws.length≤100→LstJ Z γ h p vs a
theorem Rel.lst(R:Rel Z w γ H n s){i p:Nat}{vs:VL}{a:Addr}(e:H.get i=.lst p vs)(o:γ.own a=.obj i 0) :
  LstJ Z γ s.heap p vs a:=by
 have x:=R.obj i
 rw [e] at x
 obtain⟨b,pre,ws,m,o1,g,pr,v,l1,l2⟩:=x
 obtain rfl:=o1.2 a 0 o
 exact⟨pre,ws,m,g,pr,v,l1,l2⟩
inductive Lst0J(Z:SA)(γ:Gh)(h:Heap)(vs:VL)(a:Addr):Prop | mk (ws:List Value) (m:Nat):h.get? a=some ⟨.type "list",none,.seq ws.toArray m,#[]⟩→VRs Z γ h vs ws→ws.length≤100→Lst0J Z γ h vs a
theorem Rel.lst0(R:Rel Z w γ H n s){i:Nat}{vs:VL}{a:Addr}(e:H.get i=.lst 0 vs)(o:γ.own a=.obj i 0) :
  Lst0J Z γ s.heap vs a:=by
 obtain⟨pre,ws,m,g,pr,v,l1,l2⟩:=R.lst e o
 unfold PreR at pr
 rw [if_pos rfl] at pr
 subst pr
 exact⟨ws,m,g,v,l2⟩
inductive LstAt(o:O)(k:Nat→VL→Bool):Prop | mk (p:Nat) (vs:VL):o=.lst p vs→k p vs=true→LstAt o k
theorem lstAt_spec{o:O}{k:Nat→VL→Bool}(q:lstAt o k=true):LstAt o k:=by
 cases o <;> first | exact⟨_,_,rfl,q⟩ | cases q
inductive Lst0S(o:O)(k:VL→Bool):Prop | mk (vs:VL):o=.lst 0 vs→k vs=true→Lst0S o k
theorem lst0_spec{o:O}{k:VL→Bool}(q:Mine.lst0 o k=true):Lst0S o k:=by
 obtain⟨p,vs,rfl,q⟩:=lstAt_spec q
 have q:@Bool.rec (fun _=>Bool) false (k vs) (Nat.beq p 0)=true:=q
 rw [beqE] at q
 by_cases e:p=0
 ·subst e;exact⟨vs,rfl,q⟩
 ·rw [decide_eq_false e] at q;cases q
theorem vrs1{a:V}{ws:List Value}(x:VRs Z γ h [a] ws):∃ r,ws=[r]∧VR Z γ h a r:=by
 obtain⟨r,_,e,v,n⟩:=x.consI;exact⟨r,e.trans (by rw [n.nilI]),v⟩
theorem vrs2{a b:V}{ws:List Value}(x:VRs Z γ h [a,b] ws):∃ r q,ws=[r,q]∧VR Z γ h a r∧VR Z γ h b q:=by
 obtain⟨r,_,e,v,n⟩:=x.consI;obtain⟨q,e',u⟩:=vrs1 n;exact⟨r,q,e.trans (by rw [e']),v,u⟩
theorem vrs3{a b c:V}{ws:List Value}(x:VRs Z γ h [a,b,c] ws):∃ r q p,ws=[r,q,p]∧VR Z γ h a r∧VR Z γ h b q∧VR Z γ h c p:=by
 obtain⟨r,_,e,v,n⟩:=x.consI;obtain⟨q,p,e',u⟩:=vrs2 n;exact⟨r,q,p,e.trans (by rw [e']),v,u⟩
theorem VRs.len{vs:VL}{ws:List Value}(x:VRs Z γ h vs ws):vs.length=ws.length:=by
 induction vs generalizing ws with
 | nil=>cases x;rfl
 | cons v r ih=>obtain⟨_,_,rfl,a,b⟩:=x.consI;rw [List.length_cons,List.length_cons,ih b]
theorem vlen(l:VL):VL.len l=l.length:=by
 induction l with
 | nil=>rfl
 | cons v r ih=>show VL.len r + 1=_;rw [ih];rfl
theorem VR.ref_inv{i:Nat}{rv:Value}(x:VR Z γ h (.ref i) rv):VRef γ i rv:=x
structure EqJ(A:Around)(s:Shared)(x y:Value)(b:Bool):Prop where
 eq:RcAt A s x y b
 ne:RcNeAt A s x y (!b)
 at_:EqAt A s x y b
theorem int_beq(x y:Int):eqB x y=(x == y):=by
 unfold eqB
 cases h:Int.instDecidableEq x y with
 | isTrue e=>subst e;simp
 | isFalse e=>simp [e]
theorem VRs.get{vs:VL}{ws:List Value}(x:VRs Z γ h vs ws)(j:Nat)(h1:j < ws.length):∃ v,vs[j]?=some v∧VR Z γ h v ws[j]:=by
 induction vs generalizing ws j with
 | nil=>cases x;exact absurd h1 (Nat.not_lt_zero _)
 | cons v r ih =>
  obtain⟨_,_,rfl,a,b⟩:=x.consI
  ·
   cases j with
   | zero=>exact⟨v,rfl,a⟩
   | succ j=>exact ih b j (by simpa using h1)
theorem isList_of{a:Addr}{ws:List Value}{m:Nat}(e:s.heap.get? a=some ⟨.type "list",none,.seq ws.toArray m,#[]⟩):s.heap.IsList a ws.toArray:=⟨_,e,rfl,m,rfl⟩
theorem eqC_ok{a b:C}{q:Bool→Bool}{ra rb:Value}(e:eqC a b q=true)(x:VR Z γ s.heap (.a a) ra)(y:VR Z γ s.heap (.a b) rb)(A:Around):∃ r,q r=true∧EqJ A s ra rb r:=by
 cases a with
 | int z =>
  cases b with
  | int z' =>
   obtain⟨t,rfl,_⟩:=x;obtain⟨u,rfl,_⟩:=y
   exact⟨_,e,int_beq z z' ▸ ⟨.int_int _ _ _ _,.int_int _ _ _ _,.int_int _ _ _ _⟩⟩
  | _=>exact ff e
 | num i c =>
  cases b with
  | num j d =>
   obtain⟨hij,e'⟩:=brecT e
   obtain rfl:=beqT hij
   obtain⟨r,t,r1,rfl⟩:=x;obtain⟨_,u,r2,rfl⟩:=y
   rw [r1] at r2;cases r2
   refine ⟨_,e',?_⟩
   have:Nat.beq c d=((r + (c:Int)) == (r + (d:Int))):=by
    rw [beqE]
    by_cases hc:c=d
    ·subst hc;rw [decide_eq_true rfl,beq_self_eq_true]
    ·rw [decide_eq_false hc];symm;rw [beq_eq_false_iff_ne];exact fun z=>hc (Int.ofNat.inj (Int.add_left_cancel z))
   rw [this]
   exact⟨.int_int _ _ _ _,.int_int _ _ _ _,.int_int _ _ _ _⟩
  | _=>exact ff e
 | str i =>
  cases b with
  | str j =>
   obtain⟨t,rfl,h1⟩:=x;obtain⟨u,rfl,h2⟩:=y
   refine ⟨_,e,?_⟩
   have:Nat.beq i j=(nmS i == nmS j):=by
    rw [beqE]
    by_cases hc:i=j
    ·subst hc;rw [decide_eq_true rfl,beq_self_eq_true]
    ·rw [decide_eq_false hc];symm;rw [beq_eq_false_iff_ne];exact fun z=>hc (nmS_inj h1 h2 z)
   rw [this]
   exact⟨.str_str _ _ _ _,.str_str _ _ _ _,.str_str _ _ _ _⟩
  | _=>exact ff e
 | _=>exact ff e
theorem allRange_cons(e:Nat→Bool)(m:Nat):(List.range (m + 1)).all e=(e 0 && (List.range m).all fun j=>e (j + 1)):=by
 rw [List.range_succ_eq_map,List.all_cons,List.all_map];rfl
theorem eqs_ok{ih:EQ}{xs ys:VL}{ws us:List Value}{q:Bool→Bool}(J:∀ a b q ra rb,ih H a b q=true→VR Z γ s.heap a ra→VR Z γ s.heap b rb→∃ r,q r=true∧EqAt A s ra rb r)
  (hx:VRs Z γ s.heap xs ws) (hy:VRs Z γ s.heap ys us) (hl:ws.length=us.length) (e:eqs ih H xs ys q=true) :
  ∃ f:Nat→Bool,q ((List.range ws.length).all f)=true∧∀ j (h1:j < ws.length) (h2:j < us.length),EqAt A s ws[j] us[j] (f j):=by
 induction xs generalizing ys ws us q with
 | nil =>
  obtain rfl:=hx.nilI
  cases ys with
  | nil=>exact⟨fun _=>true,e,fun j h1=>absurd h1 (Nat.not_lt_zero _)⟩
  | cons _ _=>exact ff e
 | cons v vs ihx =>
  obtain⟨_,_,rfl,x1,x2⟩:=hx.consI
  cases ys with
   | nil=>cases hy.nilI;cases hl
   | cons y ys =>
    obtain⟨_,_,rfl,y1,y2⟩:=hy.consI
    obtain⟨r,e1,j1⟩:=J _ _ _ _ _ e x1 y1
    obtain⟨f,f1,f2⟩:=ihx x2 y2 (by simpa using hl) e1
    refine ⟨fun j=>match j with | 0=>r | j + 1=>f j,?_,fun j h1 h2=>?_⟩
    ·rw [List.length_cons,allRange_cons];cases r <;> exact f1
    ·cases j with
     | zero=>exact j1
     | succ j=>exact f2 j (by simpa using h1) (by simpa using h2)
theorem pre_eq{p:Nat}{pre pre':List Value}(x:PreR γ s.heap p pre)(y:PreR γ s.heap p pre')(hu:A.units < cLine) :
  pre.length=pre'.length∧∀ j (h1:j < pre.length) (h2:j < pre'.length),EqAt A s pre[j] pre'[j] true:=by
 unfold PreR at x y
 by_cases e:p=0
 ·rw [if_pos e] at x y;subst x y;exact⟨rfl,fun j h1=>absurd h1 (Nat.not_lt_zero _)⟩
 ·rw [if_neg e] at x y
  refine ⟨x.1.trans y.1.symm,fun j h1 h2=>?_⟩
  have hz:j < (γ.pre p).length:=x.1 ▸ h1
  obtain⟨a,ws,m,q1,q2,q3,q4,q5⟩:=x.2 j _ _ (List.getElem?_eq_getElem h1) (List.getElem?_eq_getElem hz)
  obtain⟨a',ws',m',r1,r2,r3,r4,r5⟩:=y.2 j _ _ (List.getElem?_eq_getElem h2) (List.getElem?_eq_getElem hz)
  rw [q1,r1]
  by_cases ha:a=a'
  ·subst ha;exact .same _
  ·have hs:ws.size=ws'.size:=by rw [← Array.length_toList,← Array.length_toList,q4,r4]
   have hl:s.heap.IsList a ws:=⟨_,q3,rfl,m,rfl⟩
   have hl':s.heap.IsList a' ws':=⟨_,r3,rfl,m',rfl⟩
   have:=RcAt.lists (A:=A) (e:=fun _=>true) hl hl' hs hu (fun i h1 h2=>by
    have hz':i < ((γ.pre p)[j]).length:=by rw [← q4,Array.length_toList];exact h1
    obtain⟨t,e1⟩:=q5 i ws[i] _ (by rw [Array.getElem?_toList,Array.getElem?_eq_getElem h1]) (List.getElem?_eq_getElem hz')
    obtain⟨u,e2⟩:=r5 i ws'[i] _ (by rw [Array.getElem?_toList,Array.getElem?_eq_getElem h2]) (List.getElem?_eq_getElem hz')
    rw [e1,e2]
    have:=EqAt.int_int (A:=A.in1) (s:=s) (((γ.pre p)[j])[i]) t (((γ.pre p)[j])[i]) u
    rwa [beq_self_eq_true] at this)
   rw [show (List.range ws.size).all (fun _=>true)=true from List.all_eq_true.mpr fun _ _=>rfl] at this
   exact .of_refs ha this
set_option tactic.hygienic true in
theorem eqD_ok(R:Rel Z w γ H n s):∀ (m:Nat) (A:Around) (a b:V) (q:Bool→Bool) (ra rb:Value),A.units + m < cLine→eqD m H a b q=true→VR Z γ s.heap a ra→VR Z γ s.heap b rb→∃ r,q r=true∧EqJ A s ra rb r:=by
 intro m
 induction m with
 | zero=>intro A a b q ra rb _ e;cases e
 | succ m ih =>
  intro A a b q ra rb hu e x y
  have e:eqV (eqD m) H a b q=true:=e
  have hu1:A.in1.units + m < cLine:=by show A.units + 1 + m < cLine;rw [Nat.add_assoc,Nat.add_comm 1];exact hu
  cases a with
  | a c =>
   cases b with
   | a d=>exact eqC_ok e x y A
   | _=>exact ff e
  | ref i =>
   cases b with
   | ref j =>
    have e:@Bool.rec (fun _=>Bool) (lstAt (H.get i) fun p xs=>lstAt (H.get j) fun q' ys=>@Bool.rec (fun _=>Bool) false (@Bool.rec (fun _=>Bool) (q false) (eqs (eqD m) H xs ys q) (Nat.beq (VL.len xs) (VL.len ys))) (Nat.beq p q')) false (Nat.beq i j)=true:=e
    obtain⟨hij',e3⟩:=brecF e
    have hij:=beqF hij'
    obtain⟨p,xs,e1,e4⟩:=lstAt_spec e3
    obtain⟨p',ys,e2,e5⟩:=lstAt_spec e4
    obtain⟨hp,e6⟩:=brecT e5
    obtain rfl:=beqT hp
    have e7:=(brec e6).symm
    rw [vlen,vlen] at e7
    obtain⟨la,rfl,oa⟩:=x.ref_inv
    obtain⟨lb,rfl,ob⟩:=y.ref_inv
    have hne:la≠lb:=by intro z;subst z;rw [oa] at ob;cases ob;exact hij rfl
    obtain⟨pre,ws,m1,g1,pr1,v1,_,_⟩:=R.lst e1 oa
    obtain⟨pre',us,m2,g2,pr2,v2,_,_⟩:=R.lst e2 ob
    obtain⟨hpl,hpe⟩:=pre_eq (A:=A.in1) pr1 pr2 (Nat.lt_of_le_of_lt (Nat.le_add_right _ m) hu1)
    have L1:=isList_of g1
    have L2:=isList_of g2
    have hu0:A.units < cLine:=Nat.lt_of_le_of_lt (Nat.le_add_right _ _) hu
    rcases e7 with ⟨hl',e⟩ | ⟨hl',e⟩
    ·have hl:=beqT hl'
     have hw:ws.length=us.length:=by rw [← v1.len,← v2.len,hl]
     obtain⟨f,f1,f2⟩:=eqs_ok (A:=A.in1) (fun a b q ra rb e x y=>let ⟨r,z,J⟩:=ih A.in1 a b q ra rb hu1 e x y;⟨r,z,J.at_⟩) v1 v2 hw e
     let g:Nat→Bool:=fun j=>if j < pre.length then true else f (j - pre.length)
     have hsz:(pre ++ ws).toArray.size=(pre' ++ us).toArray.size:=by simp [hpl,hw]
     have hall:(List.range (pre ++ ws).toArray.size).all g=(List.range ws.length).all f:=by
      rw [List.size_toArray,List.length_append]
      rw [List.range_add,List.all_append,List.all_map,show (List.range pre.length).all g=true from List.all_eq_true.mpr fun j hj=>if_pos (List.mem_range.mp hj),Bool.true_and]
      exact congrArg (List.all _) (funext fun j=>(if_neg (Nat.not_lt.mpr (Nat.le_add_right _ _))).trans (by rw [Nat.add_sub_cancel_left]))
     have he:∀ j (h1:j < (pre ++ ws).toArray.size) (h2:j < (pre' ++ us).toArray.size),EqAt A.in1 s (pre ++ ws).toArray[j] (pre' ++ us).toArray[j] (g j):=by
      intro j h1 h2
      simp only [List.size_toArray,List.length_append] at h1 h2
      simp only [List.getElem_toArray]
      show EqAt A.in1 s _ _ (if j < pre.length then true else f (j - pre.length))
      by_cases hq:j < pre.length
      ·rw [if_pos hq,List.getElem_append_left hq,List.getElem_append_left (hpl ▸ hq)]
       exact hpe j hq (hpl ▸ hq)
      ·have hq:=Nat.not_lt.mp hq
       rw [if_neg (Nat.not_lt.mpr hq),List.getElem_append_right hq,List.getElem_append_right (hpl ▸ hq)]
       have:=f2 (j - pre.length) (Nat.sub_lt_left_of_lt_add hq h1) (Nat.sub_lt_left_of_lt_add hq (hpl ▸ h2))
       simpa only [hpl] using this
     have J:RcAt A s (.ref la) (.ref lb) ((List.range ws.length).all f):=hall ▸ .lists L1 L2 hsz hu0 he
     exact⟨_,f1,J,hall ▸ .lists L1 L2 hsz hu0 he,.of_refs hne J⟩
    ·have hl:=beqF hl'
     have hsz:((pre ++ ws).toArray.size != (pre' ++ us).toArray.size)=true:=by
      refine bne_iff_ne.mpr fun z=>hl ?_
      rw [List.size_toArray,List.size_toArray,List.length_append,List.length_append,hpl] at z
      rw [v1.len,v2.len];exact Nat.add_left_cancel z
     exact⟨_,e,.lists_lengths L1 L2 hsz hu0,.lists_lengths L1 L2 hsz hu0,.of_refs hne (.lists_lengths L1 L2 hsz hu0)⟩
   | _=>exact ff e
  | _=>exact ff e
end
section
variable{Z:SA}{w:World}{hd:Bool}{X:Addr→Prop}{γ γ' γ₁:Gh}{h h':Heap}{s s' s₁:Shared}{H H':HT}{n n' N:Nat}{A:Around}{env:Env}{l:FL}{k kx:KV}{sc:List (PS × NameKind)}
noncomputable def IsJ(s:Shared)(x y:Value)(b:Bool):Prop:=∀ (w:World) (A:Around) (Q:Bool→Shared→Prop) (E:Value→Shared→Prop),Q b s→wpAny (model prog w) A (isSame x y) Q E s
theorem IsJ.pure{x y:Value}{b:Bool}(e:isSame x y=pure b):IsJ s x y b:=fun _ _ _ _ q=>by rw [e];exact wpAny_pure q
theorem IsJ.refl_ref(a:Addr):IsJ s (.ref a) (.ref a) true:=fun w A Q E q=>by
 unfold isSame
 dsimp only
 rw [if_pos (beq_self_eq_true a)]
 exact wpAny_pure q
theorem IsJ.refs{x y c:Addr}{d:Option Addr}{dt:Data}{sl:Array (Option Value)}{oy:Obj}(e:x≠y)(gx:s.heap.get? x=some ⟨.ref c,d,dt,sl⟩)(gy:s.heap.get? y=some oy):IsJ s (.ref x) (.ref y) false:=fun w A Q E q=>by
 unfold isSame
 dsimp only
 rw [if_neg (fun z=>e (eq_of_beq z))]
 exact wpAny_bind (wpAny_load gx (wpAny_bind (wpAny_load gy (wpAny_pure q))))
theorem isDiff{ra rb:Value}(ha:Nat.ble (vsh ra) 4=true)(hb:Nat.ble (vsh rb) 4=true)(e:Nat.beq (vsh ra) (vsh rb)=false):isSame ra rb=pure false:=by
 cases ra with
 | none | bool | int | str | ref=>cases rb with
  | none | bool | int | str | ref=>first | rfl | exact ff e.symm
  | _=>exact ff hb
 | _=>exact ff ha
theorem isA_ok(O:ZOk Z)(R:Rel Z w γ H n s){c:C}{b:V}{q:Bool→Bool}{ra rb:Value}(sh:C.sh c=V.sh b)(e:isA c b q=true)(x:VR Z γ s.heap (.a c) ra)(y:VR Z γ s.heap b rb):∃ r,q r=true∧IsJ s ra rb r:=by
 cases c with
 | none =>
  have z:=V.sh_ok y (by rw [← sh];rfl)
  rw [← sh] at z
  obtain rfl:ra=.none:=x
  cases rb with
  | none=>exact⟨_,e,.pure rfl⟩
  | _=>cases z
 | sym i =>
  obtain⟨u,rfl,q1⟩:=x
  obtain⟨_,f,d,m,t1,t2,g,_⟩:=R.sym.at_ _ _ q1
  cases b with
  | a b=>cases b with
   | sym j =>
    obtain⟨v,rfl,q2⟩:=y
    obtain⟨_,_,d',m',t1',t2',g',_⟩:=R.sym.at_ _ _ q2
    refine ⟨_,e,?_⟩
    cases h:Nat.beq i j with
    | true=>obtain rfl:=beqT h;rw [q1] at q2;cases q2;exact .refl_ref _
    | false=>exact .refs (fun z=>beqF h (R.sym.uniq _ _ _ q1 (by rw [z];exact q2))) g g'
   | _=>exact ff e
  | obj d fs =>
   obtain⟨hc,e'⟩:=brecF e
   obtain⟨cd,v,d',m',rvs,rfl,hc2,e2,_⟩:=y.objI
   refine ⟨_,e',.refs (fun z=>?_) g e2⟩
   rw [z] at g
   exact beqF hc (O.clInj _ _ _ _ hc2 cl2 (Value.ref.inj (objEq e2 g).1))
  | _=>exact ff e
 | int i=>cases b with
  | a b=>cases b with
   | int j =>
    obtain⟨t,rfl,ht⟩:=x
    obtain⟨u,rfl,hu⟩:=y
    cases i with
    | negSucc m=>exact ff e
    | ofNat m =>
     obtain⟨hm,e1⟩:=brecT e
     obtain⟨hz,e2⟩:=brecT e1
     rw [int_beq] at hz
     obtain rfl:=eq_of_beq hz
     refine ⟨true,e2,fun w A Q E q=>?_⟩
     have sm:smallInt (Int.ofNat m)=true:=Bool.and_eq_true_iff.mpr ⟨decide_eq_true (Int.le_trans (by decide) (Int.natCast_nonneg m)),decide_eq_true (Int.ofNat_le.mpr (Nat.le_of_ble_eq_true hm))⟩
     show wpAny (model prog w) A (if (Int.ofNat m == Int.ofNat m && smallInt (Int.ofNat m))=true then isSame.cachedInt t u else isSame.created (Int.ofNat m == Int.ofNat m) t u) Q E s
     rw [if_pos (by rw [beq_self_eq_true,sm];rfl)]
     unfold isSame.cachedInt
     rw [if_neg (by rw [beq_false_of_ne ht,beq_false_of_ne hu];nofun)]
     exact wpAny_bind (wpAny_rule (wpAny_pure q))
   | _=>exact ff e
  | _=>exact ff e
 | _=>exact ff e
theorem isK_ok(O:ZOk Z)(R:Rel Z w γ H n s){a b:V}{q:Bool→Bool}{ra rb:Value}(e:isK a b q=true)(x:VR Z γ s.heap a ra)(y:VR Z γ s.heap b rb):∃ r,q r=true∧IsJ s ra rb r:=by
 rcases brec e with ⟨h,e⟩ | ⟨h,e⟩
 ·obtain⟨h1,e⟩:=brecT e
  obtain⟨h2,e⟩:=brecT e
  have s1:=V.sh_ok x h1
  have s2:=V.sh_ok y h2
  rw [← s1] at h1 h
  rw [← s2] at h2 h
  exact⟨_,e,.pure (isDiff h1 h2 h)⟩
 have h:=beqT h
 cases a with
 | a a=>exact isA_ok O R h e x y
 | obj c xs =>
  obtain⟨cd,v,d,m,rvs,rfl,hc,g,f,_⟩:=x.objI
  cases b with
  | a b=>cases b with
   | sym i =>
    obtain⟨_,rfl,q1⟩:=y
    obtain⟨_,_,d',m',t1,t2,g',_⟩:=R.sym.at_ _ _ q1
    obtain⟨hb,e⟩:=brecF e
    refine ⟨_,e,.refs (fun z=>?_) g g'⟩
    rw [← z] at g'
    exact beqF hb (O.clInj _ _ _ _ hc cl2 (Value.ref.inj (objEq g g').1))
   | _=>exact ff e
  | obj d' ys =>
   have y':=y
   obtain⟨cd',v',d2,m',rvs',rfl,hc',g',_⟩:=y.objI
   obtain⟨_,e⟩:=brecT e
   obtain⟨l1,e⟩:=brecT e
   obtain⟨l2,e⟩:=brecT e
   obtain⟨hs,e⟩:=brecF e
   have l1:=Nat.le_of_ble_eq_true l1
   have l2:=Nat.le_of_ble_eq_true l2
   refine ⟨_,e,.refs (fun z=>?_) g g'⟩
   have:=(sz_eq2 O R).1 _ _ _ x (by rw [z];exact y') (by rw [sz_obj];omega) (by rw [sz_obj];omega)
   rw [sz_obj,sz_obj] at this
   exact beqF hs (Nat.succ.inj this)
  | _=>exact ff e
 | _=>exact ff e
end
section
variable{Z:SA}{w:World}{hd:Bool}{X:Addr→Prop}{γ γ' γ₁:Gh}{h h':Heap}{s s' s₁:Shared}{H H':HT}{n n' N:Nat}{A:Around}{env:Env}{l:FL}{k kx:KV}{sc:List (PS × NameKind)}
inductive DicJ(Z:SA)(w:World)(γ:Gh)(h:Heap)(i kd:Nat)(fs:FL)(a:Addr):Prop | mk (kvs:List (Int × Value)):Own1 γ i a→h.DictOf (intKind prog w) a kvs→DR Z γ h kd fs kvs→DicJ Z w γ h i kd fs a
theorem Rel.dic(R:Rel Z w γ H n s){i kd:Nat}{fs:FL}{a:Addr}(e:H.get i=.dic kd fs)(o:γ.own a=.obj i 0):DicJ Z w γ s.heap i kd fs a:=by
 have x:=R.obj i
 rw [e] at x
 obtain⟨b,kvs,o1,d,r⟩:=x
 obtain rfl:=o1.2 a 0 o
 exact⟨kvs,o1,d,r⟩
theorem lt_B(x y:Int):ltB x y=decide (x < y):=by unfold ltB;cases h:Int.decLt x y with | isTrue e=>simp [e] | isFalse e=>simp only [e,decide_false]
theorem le_B(x y:Int):leB x y=decide (x≤y):=by unfold leB;cases h:Int.decLe x y with | isTrue e=>simp [e] | isFalse e=>simp only [e,decide_false]
noncomputable def opOf:Nat→CmpOp
 | 0=>.Eq | 1=>.NotEq | 2=>.Lt | 3=>.LtE | 4=>.Gt | 5=>.GtE | 6=>.Is | 7=>.IsNot | _=>.In
noncomputable def CJ(w:World)(A:Around)(s:Shared)(op:CmpOp)(x y:Value)(b:Bool):Prop :=
 ∀ (Q:Value→Shared→Prop) (E:Value→Shared→Prop),(∀ t,s.toks≤t→Q (.bool b) { s with toks:=t })→wpAny (model prog w) A (compareOp op x y) Q E s
theorem CJ.of{op:CmpOp}{x y:Value}{b:Bool}(c:∀ (Q:Value→Shared→Prop) (E:Value→Shared→Prop),Q (.bool b) s→wpAny (model prog w) A (compareOp op x y) Q E s):CJ w A s op x y b:=fun Q E q=>c Q E (q s.toks (Nat.le_refl _))
noncomputable def eqFn(x y:Value):Bool:=match y,x with
 | .int a _,.int b _=>a == b
 | .str a _,.str b _=>a == b
 | _,_=>false
inductive As1(Z:SA)(γ:Gh)(h:Heap)(vs:VL)(k:V→Bool)(rvs:List Value):Prop | mk (v:V) (rv:Value):vs=[v]→rvs=[rv]→VR Z γ h v rv→k v=true→As1 Z γ h vs k rvs
theorem as1_ok{vs:VL}{k:V→Bool}{rvs:List Value}(e:as1 vs k=true)(x:VRs Z γ h vs rvs):As1 Z γ h vs k rvs:=by
 match vs,e,x with
 | [v],e,x=>obtain⟨r,q,y⟩:=vrs1 x;exact⟨v,r,rfl,q,y,e⟩
 | [],e,_=>exact ff e
 | _ :: _ :: _,e,_=>exact ff e
inductive As2(Z:SA)(γ:Gh)(h:Heap)(vs:VL)(k:V→V→Bool)(rvs:List Value):Prop | mk (v u:V) (rv ru:Value):vs=[v,u]→rvs=[rv,ru]→VR Z γ h v rv→VR Z γ h u ru→k v u=true→As2 Z γ h vs k rvs
theorem as2_ok{vs:VL}{k:V→V→Bool}{rvs:List Value}(e:as2 vs k=true)(x:VRs Z γ h vs rvs):As2 Z γ h vs k rvs:=by
 match vs,e,x with
 | [v,u],e,x=>obtain⟨r,p,q,y,z⟩:=vrs2 x;exact⟨v,u,r,p,rfl,q,y,z,e⟩
 | [],e,_=>exact ff e
 | [_],e,_=>exact ff e
 | _ :: _ :: _ :: _,e,_=>exact ff e
inductive DicAt(o:O)(k:Nat→FL→Bool):Prop | mk (d:Nat) (fs:FL):o=.dic d fs→k d fs=true→DicAt o k
theorem dicAt_ok{o:O}{k:Nat→FL→Bool}(e:dicAt o k=true):DicAt o k:=by
 cases o with
 | dic d fs=>exact⟨d,fs,rfl,e⟩
 | _=>exact ff e
theorem beqI(x y:Int):eqB x y=true→x=y:=fun e=>by rw [int_beq] at e;exact eq_of_beq e
theorem beqN{s i:Nat}(e:∀ z:Int,z=(γ.nu s:Int)→z=i→s=i)(e':s=i→γ.nu i=i):((i:Int) == (γ.nu s:Int))=Nat.beq s i:=by
 rw [beqE]
 by_cases hi:s=i
 ·subst hi;rw [e' rfl,decide_eq_true rfl,beq_self_eq_true]
 ·rw [decide_eq_false hi,beq_eq_false_iff_ne];exact fun z=>hi (e _ z rfl)
theorem inC_ok(R:Rel Z w γ H n s){a b:C}{r:Bool}{ra rb:Value}(e:inC a b=some r)(x:VR Z γ s.heap (.a a) ra)(y:VR Z γ s.heap (.a b) rb)(A:Around):EqAt A s rb ra (eqFn ra rb)∧eqFn ra rb=r:=by
 cases a with
 | symnum i=>cases b with
  | int z =>
   obtain⟨a,t,q1,rfl⟩:=x
   obtain⟨u,rfl,hu⟩:=y
   refine ⟨.int_int _ _ _ _,?_⟩
   have e:@Bool.rec (fun _=>Option Bool) (@Bool.rec (fun _=>Option Bool) none (some (Nat.beq i 1)) (eqB z 1)) (some (Nat.beq i 0)) (eqB z 0)=some r:=e
   cases h0:eqB z 0 with
   | true =>
    rw [h0] at e
    obtain rfl:=beqI _ _ h0
    rw [← Option.some.inj e]
    exact beqN (γ:=γ) (s:=i) (i:=0) (fun z z1 z2=>R.sym.inj _ _ _ _ q1 R.sym.nil.1 (by rw [R.sym.nil.2];exact Int.ofNat.inj (z1.symm.trans z2))) fun _=>R.sym.nil.2
   | false =>
    cases h1:eqB z 1 with
    | true =>
     rw [h0,h1] at e
     obtain rfl:=beqI _ _ h1
     rw [← Option.some.inj e]
     exact beqN (γ:=γ) (s:=i) (i:=1) (fun z z1 z2=>R.sym.inj _ _ _ _ q1 R.sym.tee.1 (by rw [R.sym.tee.2];exact Int.ofNat.inj (z1.symm.trans z2))) fun _=>R.sym.tee.2
    | false=>rw [h0,h1] at e;cases e
  | _=>cases e
 | int p=>cases b with
  | int q =>
   obtain⟨_,rfl,_⟩:=x;obtain⟨_,rfl,_⟩:=y
   refine ⟨.int_int _ _ _ _,?_⟩
   rw [← Option.some.inj e,int_beq]
   exact Bool.eq_iff_iff.mpr ⟨fun z=>beq_iff_eq.mpr (eq_of_beq z).symm,fun z=>beq_iff_eq.mpr (eq_of_beq z).symm⟩
  | _=>cases e
 | str i=>cases b with
  | str j =>
   obtain⟨_,rfl,h1⟩:=x;obtain⟨_,rfl,h2⟩:=y
   refine ⟨.str_str _ _ _ _,?_⟩
   rw [← Option.some.inj e]
   show (nmS j == nmS i)=_
   rw [beqE]
   by_cases hi:i=j
   ·subst hi;rw [decide_eq_true rfl,beq_self_eq_true]
   ·rw [decide_eq_false hi,beq_eq_false_iff_ne];exact fun z=>hi (nmS_inj h1 h2 z.symm)
  | _=>cases e
 | _=>cases e
theorem inTup_ok(R:Rel Z w γ H n s){a:C}{ra:Value}(x:VR Z γ s.heap (.a a) ra)(A:Around):∀ {vs:VL} {ws:List Value} {r:Bool},inTup a vs=some r→VRs Z γ s.heap vs ws→(∀ y∈ws,EqAt A s y ra (eqFn ra y))∧ws.any (eqFn ra)=r:=by
 intro vs
 induction vs with
 | nil=>intro ws r e y;obtain rfl:=y.nilI;exact⟨(fun y h=>nomatch h),Option.some.inj e⟩
 | cons v vs ih =>
  intro ws r e y
  obtain⟨_,_,rfl,y1,y2⟩:=y.consI
  cases v with
  | a c =>
   have e:@Option.rec Bool (fun _=>Option Bool) none (fun a'=>@Option.rec Bool (fun _=>Option Bool) none (fun b=>some (@Bool.rec (fun _=>Bool) b true a')) (inTup a vs)) (inC a c)=some r:=e
   cases ha:inC a c with
   | none=>rw [ha] at e;cases e
   | some a'=>cases hb:inTup a vs with
    | none=>rw [ha,hb] at e;cases e
    | some b =>
     rw [ha,hb] at e
     obtain⟨j1,j2⟩:=inC_ok R ha x y1 A
     obtain⟨i1,i2⟩:=ih hb y2
     refine ⟨List.forall_mem_cons.mpr ⟨j1,i1⟩,?_⟩
     rw [List.any_cons,j2,i2,← Option.some.inj e];cases a' <;> rfl
  | _=>cases e
theorem isSame_op{x y:Value}{b:Bool}(j:IsJ s x y b):CJ w A s .Is x y b:=.of fun Q E q=>wpAny_bind (j w A _ E (wpAny_pure q))
theorem isNot_op{x y:Value}{b:Bool}(j:IsJ s x y b):CJ w A s .IsNot x y (!b):=.of fun Q E q=>wpAny_bind (j w A _ E (wpAny_pure q))
theorem sysm{h:Heap}{a:Addr}{o:Obj}(R:Rel Z w γ H n s)(hs:∃ o,(Z.K w.params).lookup sysModules=some o){i p:Nat}(ho:γ.own a=.obj i p):(a == sysModules)=false:=by
 obtain⟨o,e⟩:=hs
 rw [beq_eq_false_iff_ne]
 intro z
 subst z
 rw [R.stf _ _ e] at ho;cases ho
structure KOk(Z:SA)(w:World):Prop extends ZOk Z where
 sys:∃ o,(Z.K w.params).lookup sysModules=some o
theorem lt_ok{a b:V}{q:Bool→Bool}{ra rb:Value}(e:ltK a b q=true)(x:VR Z γ h a ra)(y:VR Z γ h b rb):∃ z t z' t',ra=.int z t∧rb=.int z' t'∧q (decide (z < z'))=true:=by
 obtain⟨z,t,rfl,_,e⟩:=asInt_ok e x
 obtain⟨z',t',rfl,_,e⟩:=asInt_ok e y
 exact⟨z,t,z',t',rfl,rfl,lt_B z z' ▸ e⟩
theorem le_ok{a b:V}{q:Bool→Bool}{ra rb:Value}(e:leK a b q=true)(x:VR Z γ h a ra)(y:VR Z γ h b rb):∃ z t z' t',ra=.int z t∧rb=.int z' t'∧q (decide (z≤z'))=true:=by
 obtain⟨z,t,rfl,_,e⟩:=asInt_ok e x
 obtain⟨z',t',rfl,_,e⟩:=asInt_ok e y
 exact⟨z,t,z',t',rfl,rfl,le_B z z' ▸ e⟩
theorem ge_ok{a b:V}{q:Bool→Bool}{ra rb:Value}(e:geK a b q=true)(x:VR Z γ h a ra)(y:VR Z γ h b rb):∃ z t z' t',ra=.int z t∧rb=.int z' t'∧q (decide (z'≤z))=true:=by
 obtain⟨m,⟨z,t,rfl,_,h2,h3⟩,e⟩:=asUp_ok e x
 obtain⟨z',t',rfl,_,e⟩:=asInt_ok e y
 obtain⟨hm,e⟩:=brecT e
 rw [lt_B] at hm
 refine ⟨_,_,_,_,rfl,rfl,?_⟩
 rw [decide_eq_false]
 ·exact e
 ·exact Int.not_le.mpr (Int.lt_of_le_of_lt h2 (Int.lt_of_le_of_lt (Int.ofNat_le.mpr (Nat.add_comm _ _ ▸ Nat.add_le_add_left h3 _)) (of_decide_eq_true hm)))
theorem intIs(z:Int)(t:Tok):(intKind prog w).is z (.int z t)=true:=by simp [intKind,Value.isInt]
theorem in_ok(O:KOk Z w)(R:Rel Z w γ H n s){a b:V}{q:Bool→Bool}{ra rb:Value}(e:inK a b H q=true)(x:VR Z γ s.heap a ra)(y:VR Z γ s.heap b rb):∃ r,q r=true∧CJ w A s .In ra rb r:=by
 cases b with
 | tup vs =>
  obtain⟨c,rfl,e⟩:=asA_ok e
  obtain⟨r,e1,e⟩:=optK_some e
  obtain⟨_,_,_,rfl,g,f,v⟩:=y.tupI
  obtain⟨i1,i2⟩:=inTup_ok R x A.in1 e1 v
  refine ⟨r,e,.of fun Q E q=>in_tupleAt (eqFn ra) ⟨_,g,rfl,_,rfl⟩ (fun y hy=>i1 y (List.mem_toArray.mp hy)) ?_⟩
  rw [List.any_toArray,i2]
  exact q
 | ref i =>
  obtain⟨u,rfl,o⟩:=y
  obtain⟨d,fs,hd,e⟩:=dicAt_ok e
  obtain⟨h0,e⟩:=brecT e
  obtain rfl:=beqT h0
  obtain⟨sy,_,t,q1,rfl,_,e⟩:=asSn_ok e x
  obtain⟨kvs,o1,D,dr⟩:=R.dic hd o
  have sm:=sysm (h:=s.heap) (o:=default) R O.sys o
  cases hl:fs.look sy with
  | none =>
   rw [hl] at e
   have nn:valueAt kvs (γ.nu sy:Int)=none:=(dr.f4 _ _ q1 hl).elim id fun z=>nomatch z.1
   refine ⟨false,e,fun Q E q=>wpAny_in_of (knd:=intKind prog w) (k:=(γ.nu sy:Int)) (intIs _ _) sm D.mapOf ?_⟩
   rw [nn];exact q _ (Nat.le_succ _)
  | some v=>rw [hl] at e;exact ff e
 | _=>exact ff e
theorem cmpK_ok(O:KOk Z w)(R:Rel Z w γ H n s)(hu:A.units + 60 < cLine){op:Nat}{a b:V}{q:Bool→Bool}{ra rb:Value}(e:cmpK op a b H q=true)(x:VR Z γ s.heap a ra)(y:VR Z γ s.heap b rb) :
  ∃ r,q r=true∧CJ w A s (opOf op) ra rb r:=by
 match op,e with
 | 0,e =>
  obtain⟨r,z,j⟩:=eqD_ok R 8 A a b q ra rb (Nat.lt_of_le_of_lt (Nat.add_le_add_left (show 8≤60 by decide) _) hu) e x y
  exact⟨r,z,.of fun Q E q=>j.eq prog w E Q q⟩
 | 1,e =>
  obtain⟨r,z,j⟩:=eqD_ok R 8 A a b _ ra rb (Nat.lt_of_le_of_lt (Nat.add_le_add_left (show 8≤60 by decide) _) hu) e x y
  exact⟨_,z,.of fun Q E q=>j.ne prog w E Q (by rw [notB_eq] at q;exact q)⟩
 | 2,e=>obtain⟨_,_,_,_,rfl,rfl,e⟩:=lt_ok e x y;exact⟨_,e,.of fun Q E q=>lt_int q⟩
 | 3,e=>obtain⟨_,_,_,_,rfl,rfl,e⟩:=le_ok e x y;exact⟨_,e,.of fun Q E q=>le_int q⟩
 | 4,e=>obtain⟨_,_,_,_,rfl,rfl,e⟩:=lt_ok e y x;exact⟨_,e,.of fun Q E q=>gt_int q⟩
 | 5,e=>obtain⟨_,_,_,_,rfl,rfl,e⟩:=ge_ok e x y;exact⟨_,e,.of fun Q E q=>ge_int q⟩
 | 6,e=>obtain⟨r,z,j⟩:=isK_ok O.toZOk R e x y;exact⟨r,z,isSame_op j⟩
 | 7,e=>obtain⟨r,z,j⟩:=isK_ok O.toZOk R (show isK a b (fun r=>q (notB r))=true from e) x y;exact⟨_,z,notB_eq r ▸ isNot_op j⟩
 | 8,e=>exact in_ok O R e x y
 | _ + 9,e=>exact ff e
theorem AOk.u(a:AOk N A):A.units + 60 < cLine:=Nat.lt_of_le_of_lt (Nat.add_le_add_right (Nat.le_trans (Nat.le_add_right _ _) a.units) 60) (by decide)
theorem sE_cmp(O:KOk Z w){op:Nat}{m₁ m₂:EM}{e₁ e₂:PX}{co:CmpOp}{p:Pos}(x:SndE Z w sc m₁ e₁)(y:SndE Z w sc m₂ e₂)(ho:opOf op=co)(hm:behindInMarks co e₂=false):SndE Z w sc (eCmp op m₁ m₂) (.Compare e₁ [co] [e₂] p):=sndE fun N hd A env l H n k kx γ s P q=>by
 subst ho
 refine wpAny_Compare1 ?_ hm
 refine wpAny_mono (x.at P q) (fun rv s' z=>?_) fun _ _ z=>z
 obtain⟨v,H',n',γ',a,R,K,vr,F⟩:=z
 refine wpAny_mono (y.at (P.go K R) a) (fun rv' s'' z=>?_) fun _ _ z=>z.up K F
 obtain⟨v',H'',n'',γ'',a',R',K',vr',F'⟩:=z
 obtain⟨r,e,j⟩:=cmpK_ok O R' P.a.u a' (vr.mono K' R.bnd) vr'
 exact j _ _ fun t ht=>PostV.up K F (PostV.up K' F' (okT (v:=.a (.bool r)) e R' (.bool _) ht))
theorem sT_cmp(O:KOk Z w){op:Nat}{m₁ m₂:EM}{e₁ e₂:PX}{co:CmpOp}{p:Pos}(x:SndE Z w sc m₁ e₁)(y:SndE Z w sc m₂ e₂)(ho:opOf op=co)(hm:behindInMarks co e₂=false):SndT Z w sc (tCmp op m₁ m₂) (.Compare e₁ [co] [e₂] p):=fun N hd A env l H n k kx γ s P q whole _=>by
 subst ho
 refine wpAny_isTrue_Compare1 ?_ hm
 refine wpAny_mono (x.at P q) (fun rv s' z=>?_) fun _ _ z=>z
 obtain⟨v,H',n',γ',a,R,K,vr,F⟩:=z
 refine wpAny_mono (y.at (P.go K R) a) (fun rv' s'' z=>?_) fun _ _ z=>z.up K F
 obtain⟨v',H'',n'',γ'',a',R',K',vr',F'⟩:=z
 obtain⟨r,e,j⟩:=cmpK_ok O R' P.a.u a' (vr.mono K' R.bnd) vr'
 refine j _ _ fun t ht=>wpAny_truthy_bool (PostB.up K F (PostB.up K' F' ⟨H'',n'',γ'',e,R'.tok rfl rfl ht,.refl ..,rfl,rfl,rfl⟩))
end
section
variable{Z:SA}{w:World}{hd:Bool}{X:Addr→Prop}{γ γ' γ₁:Gh}{h h':Heap}{s s' s₁:Shared}{H H':HT}{n n' N:Nat}{A:Around}{env:Env}{l:FL}{k kx:KV}{sc:List (PS × NameKind)}
noncomputable def opB:Nat→Operator
 | 0=>.Add | 1=>.Sub | _=>.Mod
theorem intK_eq(z:Int)(q:Int→Bool):intK z q=q z:=by cases z <;> rfl
theorem VRs.app{vs us:VL}{ws xs:List Value}(x:VRs Z γ h vs ws)(y:VRs Z γ h us xs):VRs Z γ h (vs ++ us) (ws ++ xs):=by
 induction vs generalizing ws with
 | nil=>cases x;exact y
 | cons v r ih=>obtain⟨_,_,rfl,a,b⟩:=x.consI;exact .cons a (ih b)
theorem appK_eq{vs us:VL}{q:VL→Bool}:VL.appK vs us q=q (vs ++ us):=by
 induction vs generalizing q with
 | nil=>rfl
 | cons v r ih=>show VL.appK r us (fun r'=>q (v :: r'))=_;rw [ih];rfl
theorem cap_spec{vs:VL}{q:Bool}(e:cap vs q=true):vs.length≤100∧q=true:=by
 have e:@Bool.rec (fun _=>Bool) false q (Nat.ble (VL.len vs) 100)=true:=e
 cases h:Nat.ble (VL.len vs) 100 with
 | false=>rw [h] at e;cases e
 | true=>rw [h] at e;exact⟨by rw [← vlen];exact Nat.le_of_ble_eq_true h,e⟩
theorem num_add(p c:Nat)(r:Int):(Int.ofNat p:Int) + (r + (c:Int))=r + ((p + c:Nat):Int):=by rw [Int.natCast_add,Int.ofNat_eq_natCast,← Int.add_assoc,← Int.add_assoc,Int.add_comm r]
theorem up_add{z:Int}{b k m:Nat}(h:z≤((b + k:Nat):Int)):z + (m:Int)≤((b + (k + m):Nat):Int):=by rw [← Nat.add_assoc,Int.natCast_add (b + k)];exact Int.add_le_add_right h _
theorem addK_ok{a b:V}{ra rb:Value}(R:Rel Z w γ H n s)(e:addK a b H n k=true)(x:VR Z γ s.heap a ra)(y:VR Z γ s.heap b rb){E:Value→Shared→Prop} :
  wpAny (model prog w) A (binaryOp .Add ra rb) (PostV Z w NX γ s k) E s:=by
 cases a with
 | a c =>
  cases c with
  | int p =>
   obtain⟨_,rfl,_⟩:=x
   obtain⟨d,rfl,e⟩:=asA_ok e
   cases d with
   | int q=>obtain⟨_,rfl,_⟩:=y;have e:intK (Int.add p q) (fun z=>k (.a (.int z)) H n)=true:=e;rw [intK_eq] at e;exact add_int (okT e R (.int _ _ R.tkn) (Nat.le_succ _))
   | num i c =>
    cases p with
    | ofNat p=>obtain⟨_,u,r1,rfl⟩:=y;exact add_int (okT e R (.num _ r1 (num_add _ _ _)) (Nat.le_succ _))
    | negSucc _=>exact ff e
   | _=>exact ff e
  | upto m =>
   obtain⟨z,_,rfl,e⟩:=asNat_ok e y
   obtain⟨_,t,rfl,h1,h2,h3⟩:=x
   exact add_int (okT e R (.upto _ (Int.add_nonneg h1 (Int.natCast_nonneg _)) (up_add h2) h3) (Nat.le_succ _))
  | _=>exact ff e
 | ref i =>
  obtain⟨j,rfl,e⟩:=asRef_ok e
  obtain⟨vs,e1,e⟩:=lst0_spec e
  obtain⟨us,e2,e⟩:=lst0_spec e
  rw [appK_eq] at e
  obtain⟨hc,e⟩:=cap_spec e
  obtain⟨la,rfl,oa⟩:=x.ref_inv
  obtain⟨lb,rfl,ob⟩:=y.ref_inv
  obtain⟨ws,m1,g1,v1,l1⟩:=R.lst0 e1 oa
  obtain⟨xs,m2,g2,v2,l2⟩:=R.lst0 e2 ob
  have vv:=v1.app v2
  have hl:(ws ++ xs).length≤100:=by rw [← vv.len];exact hc
  refine P.add_list g1 g2 ?_ (by rw [List.size_toArray,List.size_toArray,← List.length_append];exact Nat.le_trans hl (by decide))
  rw [List.append_toArray]
  exact newList_ok R vv hl e (Nat.le_refl s.toks)
 | _=>exact ff e
theorem binK_ok{op:Nat}{a b:V}{ra rb:Value}(R:Rel Z w γ H n s)(e:binK op a b H n k=true)(x:VR Z γ s.heap a ra)(y:VR Z γ s.heap b rb){E:Value→Shared→Prop} :
  wpAny (model prog w) A (binaryOp (opB op) ra rb) (PostV Z w NX γ s k) E s:=by
 match op,e with
 | 0,e=>exact addK_ok R e x y
 | 1,e =>
  obtain⟨_,_,rfl,_,e⟩:=asInt_ok e x
  obtain⟨_,_,rfl,_,e⟩:=asInt_ok e y
  rw [intK_eq] at e
  exact sub_int (okT e R (.int _ _ R.tkn) (Nat.le_succ _))
 | 2,e =>
  obtain⟨p,_,rfl,e⟩:=asNat_ok e x
  obtain⟨q,_,rfl,e⟩:=asNat_ok e y
  cases q with
  | zero=>exact ff e
  | succ m=>exact mod_int nofun (by rw [← Int.ofNat_fmod];exact okT (v:=natV (p % (m + 1))) e R (.int _ _ R.tkn) (Nat.le_succ _))
 | _ + 3,e=>exact ff e
theorem sE_bin{op:Nat}{m₁ m₂:EM}{e₁ e₂:PX}{bo:Operator}{p:Pos}(x:SndE Z w sc m₁ e₁)(y:SndE Z w sc m₂ e₂)(ho:opB op=bo):SndE Z w sc (eBin op m₁ m₂) (.BinOp e₁ bo e₂ p):=sndE fun N hd A env l H n k kx γ s P q=>by
 subst ho
 refine wpAny_BinOp ?_
 refine wpAny_mono (x.at P q) (fun rv s' z=>?_) fun _ _ z=>z
 obtain⟨v,H',n',γ',a,R,K,vr,F⟩:=z
 refine wpAny_mono (y.at (P.go K R) a) (fun rv' s'' z=>?_) fun _ _ z=>z.up K F
 obtain⟨v',H'',n'',γ'',a',R',K',vr',F'⟩:=z
 exact wpAny_mono (binK_ok (E:=PostX Z w NX γ s kx) R' a' (vr.mono K' R.bnd) vr') (fun _ _ z=>PostV.up K F (PostV.up K' F' z)) fun _ _ z=>z
theorem at_eq{vs:VL}{j:Nat}:VL.at vs j=vs[j]?:=by
 induction vs generalizing j with
 | nil=>rfl
 | cons v r ih =>
  show @Bool.rec (fun _=>Option V) (VL.at r (j - 1)) (some v) (Nat.beq j 0)=_
  rw [beqE]
  cases j with
  | zero=>rfl
  | succ j=>rw [ih];rfl
theorem VRs.getV{vs:VL}{ws:List Value}(x:VRs Z γ h vs ws){j:Nat}{v:V}(e:vs[j]?=some v):∃ rv,ws[j]?=some rv∧VR Z γ h v rv:=by
 induction vs generalizing ws j with
 | nil=>cases e
 | cons u r ih =>
  obtain⟨_,_,rfl,a,b⟩:=x.consI
  cases j with
  | zero=>cases e;exact⟨_,rfl,a⟩
  | succ j=>exact ih b e
theorem popK_spec{vs:VL}{q:V→VL→Bool}(e:VL.popK vs q=true):∃ us v,vs=us ++ [v]∧q v us=true:=by
 induction vs generalizing q with
 | nil=>cases e
 | cons v r ih =>
  cases r with
  | nil=>exact⟨[],v,rfl,e⟩
  | cons u t =>
   obtain⟨us,x,e1,e2⟩:=ih (q:=fun x r'=>q x (v :: r')) e
   exact⟨v :: us,x,by rw [e1];rfl,e2⟩
theorem VRs.appInv{vs us:VL}{ws:List Value}(x:VRs Z γ h (vs ++ us) ws):∃ w1 w2,ws=w1 ++ w2∧VRs Z γ h vs w1∧VRs Z γ h us w2:=by
 induction vs generalizing ws with
 | nil=>exact⟨[],ws,rfl,.nil,x⟩
 | cons v r ih =>
  obtain⟨_,_,rfl,a,b⟩:=x.consI
  obtain⟨w1,w2,e,p,q⟩:=ih b
  exact⟨_ :: w1,w2,by rw [e];rfl,.cons a p,q⟩
noncomputable def notSlice:PX→Bool
 | .Slice ..=>false
 | _=>true
theorem subscripted_plain{e:PX}(he:notSlice e=true)(o i:Value):subscripted e false o i=operate [o,i] (getItem o i):=by
 cases e <;> first | rfl | cases he
theorem idxFit{j:Nat}(h:j≤1000):(Int.ofNat j:Int) < 2 ^ 63:=Int.lt_of_le_of_lt (Int.ofNat_le.mpr h) (by decide)
theorem lastAt(n:Nat):(-1:Int) + ((n + 1:Nat):Int)=(n:Int):=by rw [Int.natCast_add,Int.add_comm];exact Int.add_neg_cancel_right _ 1
theorem idxK_ok{a b:V}{ra rb:Value}{q:V→Bool}{value e₂:PX}(he:notSlice e₂=true)(R:Rel Z w γ H n s)(e:idxK a b H q=true)(x:VR Z γ s.heap a ra)(y:VR Z γ s.heap b rb){Q:Value→Shared→Prop}{E:Value→Shared→Prop}
  (hQ:∀ v rv,q v=true→VR Z γ s.heap v rv→Q rv s):wpAny (model prog w) A (subscriptTail value e₂ ra rb) Q E s:=by
 obtain⟨z,t,rfl,_,e⟩:=asInt_ok e y
 cases a with
 | tup vs =>
  cases z with
  | ofNat j =>
   obtain⟨hj,e⟩:=brecT e
   obtain⟨v,e2,e⟩:=optK_some e
   rw [at_eq] at e2
   obtain⟨ws,_,_,rfl,g,f,v1⟩:=x.tupI
   obtain⟨rv,e3,vr⟩:=v1.getV e2
   exact item_tupleT (j:=j) ⟨_,g,rfl,_,rfl⟩ (Int.le_trans (by decide) (Int.natCast_nonneg j)) (idxFit (Nat.le_of_ble_eq_true hj))
    (seqIndex_of (Int.natCast_nonneg j) (Int.ofNat_lt.mpr (List.getElem?_eq_some_iff.mp e3).1)) e3 (hQ v rv e vr) (subscripted_plain he _ _)
  | negSucc m=>exact ff e
 | ref i =>
  obtain⟨la,rfl,oa⟩:=x.ref_inv
  obtain⟨vs,e1,e⟩:=lst0_spec e
  obtain⟨ws,m1,g1,v1,l1⟩:=R.lst0 e1 oa
  have L:=isList_of g1
  cases z with
  | ofNat j =>
   obtain⟨v,e2,e⟩:=optK_some e
   rw [at_eq] at e2
   obtain⟨rv,e3,vr⟩:=v1.getV e2
   exact tail_any L.typeIs slot_list_getitem.lookup (wpAny_getItem_list L (Int.natCast_nonneg j) (idxFit (Nat.le_trans (Nat.le_of_lt (List.getElem?_eq_some_iff.mp e3).1) (Nat.le_trans l1 (by decide)))) ((List.getElem?_toArray ..).trans e3) (hQ v rv e vr)) (subscripted_plain he _ _)
  | negSucc m =>
   cases m with
   | zero =>
    obtain⟨us,v,rfl,e'⟩:=popK_spec e
    obtain⟨w1,w2,rfl,p1,p2⟩:=v1.appInv
    obtain⟨rv,rfl,p3⟩:=vrs1 p2
    have sz:(-1:Int) + ((w1 ++ [rv]).toArray.size:Int)=(w1.length:Int):=by rw [List.size_toArray,List.length_append];exact lastAt _
    have one:-((w1 ++ [rv]).toArray.size:Int)≤-1:=Int.neg_le_neg (Int.ofNat_le.mpr (by rw [List.size_toArray,List.length_append];exact Nat.le_add_left _ _))
    refine tail_any L.typeIs slot_list_getitem.lookup (wpAny_getItem_list_neg (x:=rv) L (by decide) one (by decide) ?_ (hQ v rv e' p3)) (subscripted_plain he _ _)
    show (w1 ++ [rv]).toArray[((-1:Int) + ((w1 ++ [rv]).toArray.size:Int)).toNat]?=some rv
    rw [sz,List.getElem?_toArray];exact List.getElem?_concat_length
   | succ m=>exact ff e
 | _=>exact ff e
theorem sE_idx{m₁ m₂:EM}{e₁ e₂:PX}{p:Pos}(x:SndE Z w sc m₁ e₁)(y:SndE Z w sc m₂ e₂)(he:notSlice e₂=true):SndE Z w sc (Xj m₁ m₂) (.Subscript e₁ e₂ p):=sndE fun N hd A env l H n k kx γ s P q=>by
 refine Subscript_ ?_
 refine wpAny_mono (x.at P q) (fun rv s' z=>?_) fun _ _ z=>z
 obtain⟨v,H',n',γ',a,R,K,vr,F⟩:=z
 refine wpAny_mono (y.at (P.go K R) a) (fun rv' s'' z=>?_) fun _ _ z=>z.up K F
 obtain⟨v',H'',n'',γ'',a',R',K',vr',F'⟩:=z
 exact idxK_ok he R' a' (vr.mono K' R.bnd) vr' fun v rv e vr=>PostV.up K F (PostV.up K' F' (ok e R' vr))
theorem takeK_eq{vs:VL}{j:Nat}{q:VL→Bool}:VL.takeK vs j q=q (vs.take j):=by
 induction vs generalizing j q with
 | nil=>cases j <;> rfl
 | cons v r ih =>
  show @Bool.rec (fun _=>Bool) (VL.takeK r (j - 1) fun r'=>q (v :: r')) (q []) (Nat.beq j 0)=_
  rw [beqE]
  cases j with
  | zero=>rfl
  | succ j=>rw [show decide (j + 1=0)=false from rfl];show VL.takeK r j _=_;rw [ih];rfl
theorem dropK_eq{vs:VL}{j:Nat}{q:VL→Bool}:VL.dropK vs j q=q (vs.drop j):=by
 induction vs generalizing j with
 | nil=>cases j <;> rfl
 | cons v r ih =>
  show @Bool.rec (fun _=>Bool) (VL.dropK r (j - 1) q) (q (v :: r)) (Nat.beq j 0)=_
  rw [beqE]
  cases j with
  | zero=>rfl
  | succ j=>rw [show decide (j + 1=0)=false from rfl];show VL.dropK r j _=_;rw [ih];rfl
theorem VRs.take'{vs:VL}{ws:List Value}(x:VRs Z γ h vs ws)(j:Nat):VRs Z γ h (vs.take j) (ws.take j):=by
 induction vs generalizing ws j with
 | nil=>cases x;cases j <;> exact .nil
 | cons v r ih=>obtain⟨_,_,rfl,a,b⟩:=x.consI;cases j with | zero=>exact .nil | succ j=>exact .cons a (ih b j)
theorem VRs.drop'{vs:VL}{ws:List Value}(x:VRs Z γ h vs ws)(j:Nat):VRs Z γ h (vs.drop j) (ws.drop j):=by
 induction vs generalizing ws j with
 | nil=>cases x;cases j <;> exact .nil
 | cons v r ih=>obtain⟨_,_,rfl,a,b⟩:=x.consI;cases j with | zero=>exact .cons a b | succ j=>exact ih b j
theorem slicePick_but(items:Array Value)(a:Nat)(ha:a + 1≤items.size):slicePick items (some a) (some (-1)) none=slicePick items (some a) (some ((items.size - 1:Nat):Int)) none:=by
 unfold slicePick
 have:sliceBounds (some (a:Int)) (some (-1)) none items.size=sliceBounds (some (a:Int)) (some ((items.size - 1:Nat):Int)) none items.size:=by
  generalize items.size=n at ha
  cases n with
  | zero=>cases ha
  | succ m =>
   show (_,max 0 (min (-1 + ((m + 1:Nat):Int)) ((m + 1:Nat):Int)),_)=(_,max 0 (min (if (m:Int) < 0 then _ else (m:Int)) ((m + 1:Nat):Int)),_)
   rw [if_neg (Int.not_lt.mpr (Int.natCast_nonneg m)),lastAt]
 rw [this]
theorem sliced_ok{vs:VL}{a b:V}{q:VL→Bool}{ws:List Value}{ra rb:Value}(e:sliced vs a b q=true)(v:VRs Z γ h vs ws)(x:VR Z γ h a ra)(y:VR Z γ h b rb) :
  ∃ lo hi us xs,IsPart ra lo∧IsPart rb hi∧slicePick ws.toArray lo hi none=List.toArray xs∧VRs Z γ h us xs∧q us=true∧xs.length≤ws.length:=by
 have blen:∀ {j:Nat} {p:Bool},@Bool.rec (fun _=>Bool) false p (Nat.ble j (VL.len vs))=true→j≤ws.length∧p=true:=fun e=>by
  obtain⟨hb,e⟩:=brecT e;have:=Nat.le_of_ble_eq_true hb;rw [vlen,v.len] at this;exact⟨this,e⟩
 rcases brec e with ⟨_,e⟩ | ⟨h1,e⟩
 ·obtain⟨i,t,rfl,e⟩:=asNat_ok e x
  rcases brec e with ⟨_,e⟩ | ⟨h2,e⟩
  ·obtain⟨z,u,rfl,_,e⟩:=asInt_ok e y
   obtain⟨hz,e⟩:=brecT e
   obtain rfl:=beqI _ _ hz
   obtain⟨hj,e⟩:=blen e
   rw [takeK_eq,dropK_eq] at e
   have hj:i + 1≤ws.length:=hj
   refine ⟨some (i:Int),some (-1),_,_,.int _ _,.int _ _,?_,(v.take' (ws.length - 1)).drop' i,by rw [vlen,v.len] at e;exact e,by rw [List.length_drop,List.length_take];exact Nat.le_trans (Nat.sub_le _ _) (Nat.min_le_right _ _)⟩
   rw [slicePick_but _ _ (by simpa using hj),slicePick_run _ _ _ (by simp) (by rw [List.size_toArray];exact Nat.le_sub_of_add_le hj)]
   simp only [List.size_toArray,List.drop_take]
  ·obtain rfl:=isNo_ok h2 y
   obtain⟨hj,e⟩:=blen e
   rw [dropK_eq] at e
   exact⟨some (i:Int),none,_,_,.int _ _,.none,slicePick_from ws.toArray i (by simpa using hj),v.drop' i,e,by simp⟩
 ·obtain rfl:=isNo_ok h1 x
  obtain⟨j,t,rfl,e⟩:=asNat_ok e y
  obtain⟨hj,e⟩:=blen e
  rw [takeK_eq] at e
  exact⟨none,some (j:Int),_,_,.none,.int _ _,slicePick_upto ws.toArray j (by simpa using hj),v.take' j,e,by rw [List.length_take];exact Nat.min_le_right _ _⟩
noncomputable def SndP(Z:SA)(w:World)(sc:List (PS × NameKind))(m:EM)(o:Option PX):Prop:=∀ (N:Nat) (hd:Bool) (A:Around) (env:Env) (l:FL) (H:HT) (n:Nat) (k kx:KV) (γ:Gh) (s:Shared),
 Pre Z w N hd A env sc l H n γ s→m (mk fnT FDeed N hd) l H n k kx=true→wpAny (model prog w) A (evalPart o env) (PostV Z w NX γ s k) (PostX Z w NX γ s kx) s
theorem sP_none:SndP Z w sc eNone none:=fun N hd A env l H n k kx γ s P q=>by rw [evalPart_none];exact wpAny_pure (ok q P.r .none)
theorem sP_some{m:EM}{e:PX}(x:SndE Z w sc m e):SndP Z w sc m (some e):=fun N hd A env l H n k kx γ s P q=>by rw [evalPart_some];exact x.at P q
theorem firsts:((List.range names.length).all fun i=>match fsT.get i with
  | some t=>decide (t < names.length∧(nmS t).length≤100) && (if ((1:Int) == 1 && (Builtin.Str.strSliceIndices none (some 1) 1 (nmS i).length).length == (nmS i).length)=true then nmS i == nmS t else (⟨((Builtin.Str.strSliceIndices none (some 1) 1 (nmS i).length).filterMap ((nmS i).cps[·]?)).toArray⟩:PS) == nmS t)
  | none=>true)=true:=by decide +kernel
set_option tactic.hygienic true in
theorem sE_slc{m₁ m₂ m₃:EM}{e₁:PX}{lo hi:Option PX}{sp p:Pos}(x:SndE Z w sc m₁ e₁)(y:SndP Z w sc m₂ lo)(z:SndP Z w sc m₃ hi):SndE Z w sc (eSlc m₁ m₂ m₃) (.Subscript e₁ (.Slice lo hi none sp) p):=sndE fun N hd A env l H n k kx γ s P q=>by
 refine Subscript_ ?_
 refine wpAny_mono (x.at P q) (fun rv s' z1=>?_) fun _ _ z=>z
 obtain⟨v,H',n',γ',a,R,K,vr,F⟩:=z1
 refine wpAny_Slice ?_
 refine wpAny_mono (y N hd A env l H' n' _ kx γ' s' (P.go K R) a) (fun rlo s1 z1=>?_) fun _ _ z=>z.up K F
 obtain⟨vlo,H1,n1,γ1,a1,R1,K1,vr1,F1⟩:=z1
 refine wpAny_mono (z N hd A env l H1 n1 _ kx γ1 s1 ((P.go K R).go K1 R1) a1) (fun rhi s2 z1=>?_) fun _ _ z=>(z.up K1 F1).up K F
 obtain⟨vhi,H2,n2,γ2,a2,R2,K2,vr2,F2⟩:=z1
 rw [evalPart_none]
 refine wpAny_pure ?_
 have vx:=(vr.mono K1 R.bnd).mono K2 R1.bnd
 have vlo':=vr1.mono K2 R1.bnd
 have R3:=R2.push { cls:=.type "slice",data:=.fields #[rlo,rhi,.none] } (Nat.le_refl s2.toks)
 have K3:Kp NX γ2 s2.heap γ2 (s2.heap.push { cls:=.type "slice",data:=.fields #[rlo,rhi,.none] }):=.push _
 have up4:∀ {rv:Value} {sx:Shared},PostV Z w NX γ2 { s2 with heap:=s2.heap.push { cls:=.type "slice",data:=.fields #[rlo,rhi,.none] } } k rv sx→PostV Z w NX γ s k rv sx:=fun z=>(((z.up (s:=s2) (s':={ s2 with heap:=s2.heap.push { cls:=.type "slice",data:=.fields #[rlo,rhi,.none] } }) K3 ⟨rfl,rfl,rfl⟩).up K2 F2).up K1 F1).up K F
 rcases asStr_ok a2 with ⟨i,rfl,a2⟩ | a2
 ·obtain⟨t,rfl,hi1⟩:=vx
  obtain⟨h1,a2⟩:=brecT a2
  obtain rfl:=isNo_ok h1 vlo'
  obtain⟨z,u,rfl,_,a2⟩:=asInt_ok a2 vr2
  obtain⟨hz,a2⟩:=brecT a2
  obtain rfl:=beqI _ _ hz
  obtain⟨f,hf,a2⟩:=optK_some a2
  have fi:=List.all_eq_true.mp firsts i (List.mem_range.mpr hi1)
  rw [hf] at fi
  obtain⟨fi1,fi3⟩:=of_decide_eq_true (Bool.and_eq_true_iff.mp fi).1
  have fi2:=(Bool.and_eq_true_iff.mp fi).2
  refine tail_any (typeIs_str _ _ t) PySem.F.slot_str_getitem.lookup (wpAny_getItem_str_slice (l:=none) (u:=some (1,u)) (st:=none) ⟨_,Heap.get?_push_size _ rfl,rfl,rfl⟩ rfl ?_) rfl
  unfold sliceMade slicePicked
  simp only [Option.map_none,Option.map_some,Option.getD_none]
  split
  ·rename_i hc
   rw [if_pos hc] at fi2
   exact up4 (ok a2 R3 (.str t fi1 (eq_of_beq fi2)))
  ·rename_i hc
   rw [if_neg hc] at fi2
   exact⟨by rw [eq_of_beq fi2];exact len_fits fi3,up4 (okT a2 R3 (.str _ fi1 (eq_of_beq fi2)) (Nat.le_succ _))⟩
 ·obtain⟨i,rfl,a2⟩:=asRef_ok a2
  obtain⟨la,rfl,oa⟩:=vx
  obtain⟨vs,e1,a2⟩:=lst0_spec a2
  obtain⟨ws,m1,g1,v1,l1⟩:=R3.lst0 e1 oa
  obtain⟨lo',hi',us,xs,p1,p2,sp,vus,a2,hl⟩:=sliced_ok a2 v1 (vlo'.mono K3 R2.bnd) (vr2.mono K3 R2.bnd)
  have L:=isList_of g1
  refine tail_any L.typeIs slot_list_getitem.lookup (wpAny_getItem_list_slice L (Heap.IsSliceOf.new ..) p1 p2 .none (by simp) ?_ (by simp only [List.size_toArray];exact Nat.le_trans l1 (by decide))) rfl
  rw [sp]
  exact up4 (newList_ok R3 vus (Nat.le_trans hl l1) a2 (Nat.le_refl _))
theorem sE_dict{p:Pos}:SndE Z w sc eDict (.Dict [] [] p):=sndE fun N hd A env l H n k kx γ s P q=>by
 rw [eval_Dict_empty]
 refine wpAny_bind (wpAny_standAt ?_)
 unfold newDict
 obtain⟨H',q,hH⟩:=newO_spec q
 refine wpAny_newObj_type ?_ (by show (#[]:Array DictEntry).size≤sizeLine + 1;decide)
 refine ⟨_,H',n + 1,_,q,P.r.new1 hH (Nat.le_refl _) fun o=>?_,(Kp.push _).take _ (Nat.le_refl _) (by rw [P.r.freshFree (Nat.le_refl _)];exact Ow.noConfusion),.ref (Gh.take_self ..),rfl,rfl,rfl⟩
 exact⟨_,[],o,Heap.DictOf.new _,(fun _ h=>nomatch h),List.nodup_nil,(fun _ _ _ _ h=>nomatch h),fun _ _ _ _=>.inl rfl,fun _ _ e=>by cases e⟩
end
end Mine
end
section
open PySem renaming Expr→PX,Str→PS
open PySem PySem.W PySem.Calls PyProof.Rows PySem.SeqAt Builtin Builtin.ObjectAttr
namespace Mine
noncomputable def clsOk(Z:SA)(K:Frag)(c:Nat)(cd:CD):Bool:=plainGet K (Z.clA c) "" && hasDictIn K (Z.clA c) && plainOver K (Z.clA c) && findIn K (.ref (Z.clA c)) "__setattr__" == some (some (.builtin "object.__setattr__")) &&
 cd.flds.all (fun x=>findIn K (.ref (Z.clA c)) (nmS x) == some none && decide (x < names.length)) && cd.fields.all (memN cd.flds) && decide (cd.flds.length≤100) &&
 cd.mths.all (fun p=>findIn K (.ref (Z.clA c)) (nmS p.1) == some (some (.ref (Z.fnA p.2))) && isFn K (.ref (Z.fnA p.2)) && specialIn K (.ref (Z.fnA p.2)) "__get__" == some (some (.builtin "function.__get__")) && takesIn K (.ref (Z.fnA p.2)) == some false && !copiedNames.contains (nmS p.1) && decide (p.1 < names.length))
noncomputable def excOk(Z:SA)(K:Frag)(c:Nat)(cd:CD):Bool:=findIn K (.ref (Z.clA c)) "__getattribute__" == some (some (.builtin "BaseException.__getattribute__")) && findIn K (.ref (Z.clA c)) "__getattr__" == some none && hasDictIn K (Z.clA c) &&
 mroIn K (Z.clA c) (.type "BaseException") == some true && typeIn K (.ref (Z.clA c)) == some (.type "type") && cd.fields.all (fun x=>findIn K (.ref (Z.clA c)) (nmS x) == some none)
structure KA(Z:SA)(w:World):Prop extends KOk Z w where
 cls:∀ c cd,clT.get c=some cd→cd.kind≠2→clsOk Z (Z.K w.params) c cd=true
 sy1:findIn (Z.K w.params) (.ref (Z.clA 2)) (nmS nName)=some none
 sy2:findIn (Z.K w.params) (.ref (Z.clA 2)) (nmS nNumber)=some none
 clo:∀ l a la,Z.clo l a la→∃ o fd,(a,o)∈l∧o.data=.func fd
 fns:∀ i,((fnT.get i).isSome || [191,205,204,207].contains i)=true→keepIn (Z.K w.params) (.ref (Z.fnA i))=true∧fnIn (Z.K w.params) (Z.fnA i)=true
 exc:∀ c cd,clT.get c=some cd→cd.kind=2→excOk Z (Z.K w.params) c cd=true
 cks:∀ c cd,clT.get c=some cd→keepIn (Z.K w.params) (.ref (Z.clA c))=true
theorem memN_mem{l:List Nat}{x:Nat}(e:memN l x=true):x∈l:=by
 induction l with
 | nil=>cases e
 | cons y r ih =>
  have e:@Bool.rec (fun _=>Bool) (memN r x) true (Nat.beq y x)=true:=e
  rw [beqE y x] at e
  by_cases h:y=x
  ·rw [h];exact .head _
  ·rw [decide_eq_false h] at e;exact .tail _ (ih e)
theorem assoc_mem{l:List (Nat × Nat)}{x f:Nat}(e:assoc l x=some f):(x,f)∈l:=by
 induction l with
 | nil=>cases e
 | cons y r ih =>
  have e:@Bool.rec (fun _=>Option Nat) (assoc r x) (some y.2) (Nat.beq y.1 x)=some f:=e
  rw [beqE y.1 x] at e
  by_cases h:y.1=x
  ·rw [decide_eq_true h] at e;cases e;rw [← h];exact .head _
  ·rw [decide_eq_false h] at e;exact .tail _ (ih e)
theorem blt_handed(b:Nat):handedIn (bltV b)=true:=by
 rcases b with _ | _ | _ | _ | _ | _ | _ | _ | _ | b <;> first | rfl | decide +kernel
section
variable{Z:SA}{w:World}{hd:Bool}{X:Addr→Prop}{γ γ' γ₁:Gh}{h h':Heap}{s s' s₁:Shared}{H H':HT}{n n' N:Nat}{A:Around}{env:Env}{l:FL}{k kx:KV}{sc:List (PS × NameKind)}
theorem VR.handed{v:V}{rv:Value}(x:VR Z γ h v rv):handedIn rv=true:=by
 cases v with
 | a c=>cases c with
  | none | bool | fn | cls=>cases x;rfl
  | int | str | sym=>obtain⟨_,rfl,_⟩:=x;rfl
  | num=>obtain⟨_,_,_,rfl⟩:=x;rfl
  | symnum=>obtain⟨_,_,_,rfl⟩:=x;rfl
  | upto=>obtain⟨_,_,rfl,_⟩:=x;rfl
  | blt b=>obtain rfl:rv=bltV b:=x;exact blt_handed _
  | clo | scr=>obtain⟨_,_,_,rfl,_⟩:=x;rfl
  | rng=>obtain⟨_,_,_,_,rfl,_⟩:=x;rfl
  | unk=>exact x
 | ref=>obtain⟨_,rfl,_⟩:=x;rfl
 | obj=>obtain⟨_,_,_,_,_,rfl,_⟩:=x.objI;rfl
 | tup=>obtain⟨_,_,_,rfl,_⟩:=x.tupI;rfl
 | met=>obtain⟨_,_,rfl,_⟩:=x.metI;rfl
 | exc=>obtain⟨_,_,_,_,_,_,rfl,_⟩:=x.excI;rfl
theorem Ns_lookIn{d:Addr}{m:PS→Option Value}(x:h.Ns d m)(name:PS):∃ o,h.get? d=some o∧lookIn name o=some (m name):=by
 obtain⟨o,es,ep,ho,hd,hk,hm⟩:=x
 refine ⟨o,ho,?_⟩
 unfold lookIn
 rw [hd]
 dsimp only
 rw [← hm name]
 unfold nsFind findBy
 rw [Array.find?_toList]
 cases hf:es.find? (·.key.isStr name) with
 | some e=>rfl
 | none =>
  have:es.toList.any (·.refKey)=false:=by
   rw [Array.any_toList,Array.any_eq_false'];intro e he;obtain⟨n,t,h⟩:=hk e he;simp [DictEntry.refKey,h]
  rw [if_neg (by rw [this];exact Bool.false_ne_true)];rfl
structure ClsFacts(Z:SA)(K:Frag)(c:Nat)(cd:CD):Prop where
 get:plainGet K (Z.clA c) "" = true
 dict:hasDictIn K (Z.clA c)=true
 over:plainOver K (Z.clA c)=true
 set:findIn K (.ref (Z.clA c)) "__setattr__" = some (some (.builtin "object.__setattr__"))
 fld:∀ x,memN cd.flds x=true→findIn K (.ref (Z.clA c)) (nmS x)=some none∧x < names.length
 sub:∀ x∈cd.fields,memN cd.flds x=true
 len:cd.flds.length≤100
 mth:∀ x f,assoc cd.mths x=some f→findIn K (.ref (Z.clA c)) (nmS x)=some (some (.ref (Z.fnA f)))∧isFn K (.ref (Z.fnA f))=true∧specialIn K (.ref (Z.fnA f)) "__get__" = some (some (.builtin "function.__get__"))∧takesIn K (.ref (Z.fnA f))=some false∧copiedNames.contains (nmS x)=false∧x < names.length
theorem clsFacts{K:Frag}{c:Nat}{cd:CD}(e:clsOk Z K c cd=true):ClsFacts Z K c cd:=by
 unfold clsOk at e
 simp only [Bool.and_eq_true,beq_iff_eq,decide_eq_true_eq,List.all_eq_true,Bool.not_eq_true'] at e
 obtain⟨⟨⟨⟨⟨⟨⟨e1,e2⟩,e3⟩,e4⟩,e5⟩,e6⟩,e7⟩,e8⟩:=e
 refine ⟨e1,e2,e3,e4,fun x hx=>e5 x (memN_mem hx),e6,e7,fun x f hx=>?_⟩
 obtain⟨⟨⟨⟨⟨a,b⟩,c⟩,d⟩,e⟩,g⟩:=e8 _ (assoc_mem hx)
 exact⟨a,b,c,d,e,g⟩
theorem KA.facts(O:KA Z w){c:Nat}{cd:CD}(e:clT.get c=some cd)(k:cd.kind≠2):ClsFacts Z (Z.K w.params) c cd:=clsFacts (O.cls c cd e k)
noncomputable def ValJ(w:World)(s:Shared)(rv:Value)(name:PS)(v:Value):Prop:=(∀ (A:Around) (Q:Value→Shared→Prop) (E:Value→Shared→Prop) (b:Bool),Q v { s with toks:=s.toks + 1 }→wpAny (model prog w) A (getAttr rv name b) Q E s) ∧
 ∀ (A:Around) (Q:Value × List Value→Shared→Prop) (E:Value→Shared→Prop) (pl:Sem Bool),Q (v,[]) { s with toks:=s.toks + 1 }→wpAny (model prog w) A (getMethod rv name pl) Q E s
noncomputable def MthJ(Z:SA)(w:World)(s:Shared)(rv:Value)(name:PS)(f:Nat):Prop:=(∀ (A:Around) (Q:Value→Shared→Prop) (E:Value→Shared→Prop) (b:Bool),Q (.ref s.heap.objs.size) { s with heap:=s.heap.push (methodObj (.ref (Z.fnA f)) rv),toks:=s.toks + 1 }→wpAny (model prog w) A (getAttr rv name b) Q E s) ∧
 ∀ (A:Around) (Q:Value × List Value→Shared→Prop) (E:Value→Shared→Prop) (pl:Sem Bool),Q (.ref (Z.fnA f),[rv]) s→wpAny (model prog w) A (getMethod rv name pl) Q E s
theorem val_of{K:Frag}{x C d:Addr}{dat:Data}{name:PS}{m:PS→Option Value}{v:Value}(st:K.In s.heap)(g:s.heap.get? x=some ⟨.ref C,some d,dat,#[]⟩)(hn:notCls ⟨.ref C,some d,dat,#[]⟩=true)(ns:s.heap.Ns d m)
  (f1:plainGet K C "" = true) (f2:hasDictIn K C=true) (f3:findIn K (.ref C) name=some none) (hm:m name=some v) (hh:handedIn v=true):ValJ w s (.ref x) name v:=by
 obtain⟨o,ho,hl⟩:=Ns_lookIn ns name
 rw [hm] at hl
 have I:InstAt s.heap x ⟨.ref C,some d,dat,#[]⟩ C (some o):=⟨g,rfl,hn,ho⟩
 have hga:=(plainGet_of f1).1
 have hk:=(plainGet_of f1).2
 have G:∀ (A:Around) (Q:Value→Shared→Prop) (E:Value→Shared→Prop) (b:Bool),Q v { s with toks:=s.toks + 1 }→wpAny (model prog w) A (getAttr (.ref x) name b) Q E s :=
  fun A Q E b q=>get_value st I hga (findObj_own f2 f3 rfl hl) hh q
 refine ⟨G,fun A Q E pl q=>?_⟩
 have hcan:=PySem.F.canon_object_ga
 unfold getMethod specialOf
 refine wpAny_bind (wpAny_bind (I.type.here ((looks_findIn st hga).here ?_)))
 dsimp only
 rw [hcan,if_neg (by decide)]
 refine wpAny_bind (wpAny_bind (I.type.here ((looks_findIn st hk).here ?_)))
 refine wpAny_bind (wpAny_bind (I.type.here ((looks_findIn st f3).here ?_)))
 exact wpAny_bind (G A _ E false (wpAny_pure q))
theorem mth_of{K:Frag}{x C d:Addr}{dat:Data}{name:PS}{m:PS→Option Value}{f:Nat}(st:K.In s.heap)(g:s.heap.get? x=some ⟨.ref C,some d,dat,#[]⟩)(hn:notCls ⟨.ref C,some d,dat,#[]⟩=true)(ns:s.heap.Ns d m)
  (f1:plainGet K C "" = true) (f2:hasDictIn K C=true) (f3:findIn K (.ref C) name=some (some (.ref (Z.fnA f)))) (f4:isFn K (.ref (Z.fnA f))=true) (f5:specialIn K (.ref (Z.fnA f)) "__get__" = some (some (.builtin "function.__get__")))
  (f6:takesIn K (.ref (Z.fnA f))=some false) (f7:copiedNames.contains name=false) (hm:m name=none):MthJ Z w s (.ref x) name f:=by
 obtain⟨o,ho,hl⟩:=Ns_lookIn ns name
 rw [hm] at hl
 have I:InstAt s.heap x ⟨.ref C,some d,dat,#[]⟩ C (some o):=⟨g,rfl,hn,ho⟩
 obtain⟨hga,hk⟩:=plainGet_of f1
 have ff:findObj K C (some o) name=some (.bind (.builtin "function.__get__") (.ref (Z.fnA f))):=by
  obtain⟨cd,hc',hd⟩:=any_some f2
  unfold findObj
  have ho:W.ownOf cd (some o) name=some none:=by unfold W.ownOf;rw [if_pos hd];exact hl
  rw [hc',Option.bind_some,f3,Option.bind_some]
  show (specialIn K (.ref (Z.fnA f)) "__get__").bind _=_
  rw [f5]
  show (takesIn K (.ref (Z.fnA f))).bind _=_
  rw [f6]
  show (W.ownOf cd (some o) name).bind _=_
  rw [ho]
  show (if (copiedNames.contains name && _)=true then none else _)=_
  rw [f7];rfl
 refine ⟨fun A Q E b q=>?_,fun A Q E pl q=>?_⟩
 ·refine get_bind st I hga ff hk (wpAny_call (fn_get (s:={ s with toks:=s.toks + 1 }) st (beq_iff_eq.mp f4) (handed_on rfl q)))
 ·exact method_fn st I hga hk f3 (beq_iff_eq.mp f4) (by show (lookIn name o).map _=_;rw [hl];rfl) q
inductive AttrJ(Z:SA)(w:World)(γ:Gh)(s:Shared)(rv:Value)(name:PS)(kv:V→Bool)(km:Nat→Bool):Prop
 | val (v:V) (r:Value):kv v=true→VR Z γ s.heap v r→ValJ w s rv name r→AttrJ Z w γ s rv name kv km
 | mth (f:Nat):km f=true→MthJ Z w s rv name f→AttrJ Z w γ s rv name kv km
theorem fieldAt_spec{ns:List Nat}{fs:VL}{rvs:List Value}{m:PS→Option Value}{x:Nat}{v:V}(e:fieldAt ns fs x=some v)(r:VRs Z γ h fs rvs)(q:ns.map (fun x=>m (nmS x))=rvs.map some):x∈ns∧∃ rv,m (nmS x)=some rv∧VR Z γ h v rv:=by
 induction ns generalizing fs rvs with
 | nil=>cases e
 | cons y ns ih =>
  cases fs with
  | nil=>cases e
  | cons f fs =>
   obtain⟨_,_,rfl,a,b⟩:=r.consI
   have e:@Bool.rec (fun _=>Option V) (fieldAt ns fs x) (some f) (Nat.beq y x)=some v:=e
   obtain⟨q1,q2⟩:=List.cons.inj q
   cases hh:Nat.beq y x with
   | true=>rw [hh] at e;cases e;obtain rfl:=beqT hh;exact⟨.head _,_,q1,a⟩
   | false =>
    rw [hh] at e
    obtain⟨p1,p2⟩:=ih e b q2
    exact⟨.tail _ p1,p2⟩
theorem fieldAt_none{ns:List Nat}{fs:VL}{x:Nat}(hl:ns.length=fs.length)(e:fieldAt ns fs x=none):x∉ns:=by
 induction ns generalizing fs with
 | nil=>exact fun h=>nomatch h
 | cons y ns ih =>
  cases fs with
  | nil=>cases hl
  | cons a b =>
   have e:@Bool.rec (fun _=>Option V) (fieldAt ns b x) (some a) (Nat.beq y x)=none:=e
   cases hh:Nat.beq y x with
   | true=>rw [hh] at e;cases e
   | false=>rw [hh] at e;exact fun z=>(List.mem_cons.mp z).elim (fun z=>beqF hh z.symm) (ih (Nat.succ.inj hl) e)
theorem map_len{ns:List Nat}{rvs:List Value}{m:PS→Option Value}(q:ns.map (fun x=>m (nmS x))=rvs.map some):ns.length=rvs.length:=by
 have:=congrArg List.length q;simpa using this
theorem c40x:∃ cd,clT.get 40=some cd∧cd.kind≠2∧assoc cd.mths nIntern=some 191∧nIntern≠nRows∧nIntern≠nNames∧nRows < names.length∧nNames < names.length:=⟨Mine.c40,by kernel_rfl,by decide,by kernel_rfl,by decide,by decide,by decide +kernel,by decide +kernel⟩
theorem c2k:c2.kind≠2:=by decide
theorem bexc_bind(o:Value):bindSpecial (.builtin "BaseException.__getattribute__") o=pure (.builtin "BaseException.__getattribute__",[o]) :=
 (Slot.of (T:= "ValueError") (name:= "__getattribute__") (id:= "BaseException.__getattribute__") (owner:= "BaseException") (n:= "__getattribute__") (by rw [typeLookup_type,builtinLookup_eq_fast];kernel_rfl) (by decide +kernel) (by decide +kernel) (by decide +kernel)
  (by first | exact .inl (by decide +kernel) | exact .inr (by decide +kernel)) (by rw [isSubtype_type];kernel_rfl)).bind o
theorem bexc_kind:builtinKind "BaseException.__getattribute__" = some .slot:=by decide +kernel
theorem bexc_split:splitId "BaseException.__getattribute__" = some ("BaseException","__getattribute__"):=by decide +kernel
theorem bexc_plain:plainId "BaseException.__getattribute__" = true:=by decide +kernel
theorem bexc_canon:(Manifest.canonical "BaseException.__getattribute__" != "object.__getattribute__")=false:=by decide +kernel
theorem exc_of{K:Frag}{x C d:Addr}{ovs:Array Value}{name:PS}{m:PS→Option Value}{v:Value}(st:K.In s.heap)(g:s.heap.get? x=some ⟨.ref C,some d,.fields ovs,#[]⟩)(ns:s.heap.Ns d m)
  (f1:findIn K (.ref C) "__getattribute__" = some (some (.builtin "BaseException.__getattribute__"))) (f1':findIn K (.ref C) "__getattr__" = some none) (f2:hasDictIn K C=true) (f4:mroIn K C (.type "BaseException")=some true)
  (f3:findIn K (.ref C) name=some none) (hm:m name=some v) (hh:handedIn v=true):ValJ w s (.ref x) name v:=by
 obtain⟨o,ho,hl⟩:=Ns_lookIn ns name
 rw [hm] at hl
 have I:InstAt s.heap x ⟨.ref C,some d,.fields ovs,#[]⟩ C (some o):=⟨g,rfl,rfl,ho⟩
 have L:∀ M,Looks M s.heap (Builtin.ObjectAttr.find (.ref x) (.ref C) name) (.value v):=fun M=>looks_find st I (findObj_own f2 f3 rfl hl)
 have G:∀ (A:Around) (Q:Value→Shared→Prop) (E:Value→Shared→Prop) (b:Bool),Q v { s with toks:=s.toks + 1 }→wpAny (model prog w) A (getAttr (.ref x) name b) Q E s:=by
  intro A Q E b q
  have L0:=I.type (M:=model prog w)
  have L1:=looks_findIn (M:=model prog w) st f1
  have L2:=looks_findIn (M:=model prog w) st f1'
  have L3:=L (model prog w)
  have L4:Looks (model prog w) s.heap (isInstance (.ref x) (.type "BaseException")) true:=L0.andThen (looks_mroIn st f4)
  obtain⟨hh',gg,dd,t,os⟩:=s
  unfold getAttr getAttrBy
  refine wpAny_bind (wpAny_mkText (wpAny_holding (wpAny_bind (L0.at (wpAny_bind (L1.at ?_))))))
  dsimp only
  rw [if_neg (by rw [show (Value.builtin "BaseException.__getattribute__" == Value.builtin "object.__getattribute__")=false from by decide,Bool.and_false];exact Bool.false_ne_true)]
  unfold getAttrByItsOwn
  refine wpAny_bind (L2.at ?_)
  unfold callGetattribute
  rw [if_neg (by rw [show onTheHeap (Value.builtin "BaseException.__getattribute__")=false from rfl,Bool.and_false];decide)]
  unfold boundAndCalled
  rw [bexc_bind]
  refine wpAny_bind (wpAny_attempt ?_)
  refine wpAny_holding (wpAny_bind (wpAny_pure (wpAny_call ?_)))
  refine codeAny_call_builtin bexc_plain PySem.F.entry_bexc_ga (@check_slot (model prog w) _ _ _ "BaseException.__getattribute__" "BaseException" "__getattribute__" (.ref x) [.str name t] [] _ bexc_kind bexc_split L4 (PySem.F.args_bexc_ga _ _) ?_)
  refine wpAny_bind (wpAny_pure (wpAny_bind (wpAny_pure (wpAny_bind (L0.at (wpAny_bind (L3.at ?_)))))))
  refine wpAny_pure ?_
  show wpAny _ _ (handedOut v) _ _ _
  rw [handedOut_of hh];exact wpAny_pure q
 refine ⟨G,fun A Q E pl q=>?_⟩
 unfold getMethod specialOf
 refine wpAny_bind (wpAny_bind (I.type.here ((looks_findIn st f1).here ?_)))
 dsimp only
 rw [bexc_canon,if_neg (by decide)]
 refine wpAny_bind (wpAny_bind (I.type.here ((looks_findIn st f1').here ?_)))
 refine wpAny_bind (wpAny_bind (I.type.here ((looks_findIn st f3).here ?_)))
 exact wpAny_bind (G A _ E false (wpAny_pure q))
theorem attr_sym(O:KA Z w)(R:Rel Z w γ H n s){i a:Nat}{kv:V→Bool}{km:Nat→Bool}{rv:Value}(e:attrK (.a (.sym i)) a H kv km=true)(x:VR Z γ s.heap (.a (.sym i)) rv):AttrJ Z w γ s rv (nmS a) kv km:=by
 obtain⟨_,rfl,q1⟩:=x
 obtain⟨h0,f,d,m,t1,t2,g,f2,nsd,m1,m2,m3⟩:=R.sym.at_ _ _ q1
 have F:=O.facts cl2 c2k
 rcases brec e with ⟨_,e⟩ | ⟨h1,e⟩
 ·obtain⟨h2,e⟩:=brecT e
  exact .val _ _ e (.symnum t2 q1 rfl) (val_of R.st g rfl nsd F.get F.dict (beqT h2 ▸ O.sy2) (beqT h2 ▸ m2) rfl)
 ·exact .val _ _ e (.str t1 h0 rfl) (val_of R.st g rfl nsd F.get F.dict (beqT h1 ▸ O.sy1) (beqT h1 ▸ m1) rfl)
theorem attr_inst(O:KA Z w)(R:Rel Z w γ H n s){i a c:Nat}{fs:FL}{kv:V→Bool}{km:Nat→Bool}{ad:Addr}(o:γ.own ad=.obj i 0)(he:H.get i=.inst c fs)(e:@Option.rec V (fun _=>Bool) (optK (clT.get c) fun cd=>mthK cd a km) kv (fs.look a)=true):AttrJ Z w γ s (.ref ad) (nmS a) kv km:=by
 have ob:=R.obj i
 rw [he] at ob
 obtain⟨b,d,m,cd,hcd,hk,hfl,o1,g,nsd,fr⟩:=ob
 obtain rfl:=o1.at0 o
 have F:=O.facts hcd hk
 cases hl:fs.look a with
 | some u =>
  rw [hl] at e
  obtain⟨ru,m1,vr⟩:=fr.1 a u hl
  exact .val _ _ e vr (val_of R.st g rfl nsd.ns F.get F.dict (F.fld a (hfl a u hl)).1 m1 vr.handed)
 | none =>
  rw [hl] at e
  obtain⟨cd',hcd',e⟩:=optK_some e
  rw [hcd] at hcd';cases hcd'
  obtain⟨f,hf,e⟩:=optK_some (o:=assoc cd.mths a) e
  obtain⟨p1,p2,p3,p4,p5,p6⟩:=F.mth a f hf
  refine .mth f e (mth_of R.st g rfl nsd.ns F.get F.dict p1 p2 p3 p4 p5 ?_)
  cases hm:m (nmS a) with
  | none=>rfl
  | some r =>
   obtain⟨y,u,h1,h2⟩:=fr.2 _ _ hm
   rw [nmS_inj (F.fld y (hfl y u h1)).2 p6 h2,hl] at h1;cases h1
theorem attr_obar(O:KA Z w)(R:Rel Z w γ H n s){i a:Nat}{kv:V→Bool}{km:Nat→Bool}{ad:Addr}(o:γ.own ad=.obj i 0)(he:H.get i=.obar)(e:@Bool.rec (fun _=>Bool) false (km 191) (Nat.beq a nIntern)=true):AttrJ Z w γ s (.ref ad) (nmS a) kv km:=by
 have ob:=R.obj i
 rw [he] at ob
 obtain⟨b,d,lr,ld,m,rows,nr,kvs,o1,hi,g,nsd,m1,m2,m3,_⟩:=ob
 obtain rfl:=o1.at0 o
 obtain⟨h1,e⟩:=brecT e
 obtain rfl:=beqT h1
 obtain⟨cd,hcd,hk,hm,n1,n2,l1,l2⟩:=c40x
 have F:=O.facts hcd hk
 obtain⟨p1,p2,p3,p4,p5,p6⟩:=F.mth _ _ hm
 refine .mth 191 e (mth_of R.st g rfl nsd.ns F.get F.dict p1 p2 p3 p4 p5 ?_)
 cases hm:m (nmS nIntern) with
 | none=>rfl
 | some r=>exact ((m3 _ _ hm).elim (fun z=>n1 (nmS_inj p6 l1 z)) fun z=>n2 (nmS_inj p6 l2 z)).elim
theorem attr_obj(O:KA Z w)(R:Rel Z w γ H n s){c a:Nat}{fs:VL}{kv:V→Bool}{km:Nat→Bool}{rv:Value}(e:attrK (.obj c fs) a H kv km=true)(x:VR Z γ s.heap (.obj c fs) rv):AttrJ Z w γ s rv (nmS a) kv km:=by
 obtain⟨cd,hcd,e⟩:=optK_some (o:=clT.get c) e
 obtain⟨_,ad,d,m,rvs,rfl,hc2,g,f2,g2,n2,r2,q2,u2,k2⟩:=x.objI
 rw [hcd] at hc2;cases hc2
 have F:=O.facts hcd k2
 cases hl:fieldAt cd.fields fs a with
 | some u =>
  rw [hl] at e
  obtain⟨p1,ru,m1,vr⟩:=fieldAt_spec hl r2 q2
  exact .val _ _ e vr (val_of R.st g rfl n2 F.get F.dict (F.fld a (F.sub _ p1)).1 m1 vr.handed)
 | none =>
  rw [hl] at e
  obtain⟨f,hf,e⟩:=optK_some (o:=assoc cd.mths a) e
  obtain⟨p1,p2,p3,p4,p5,p6⟩:=F.mth a f hf
  refine .mth f e (mth_of R.st g rfl n2 F.get F.dict p1 p2 p3 p4 p5 ?_)
  cases hm:m (nmS a) with
  | none=>rfl
  | some r =>
   obtain⟨y,hy,h2⟩:=u2 _ _ hm
   exact absurd (nmS_inj (F.fld y (F.sub _ hy)).2 p6 h2 ▸ hy) (fieldAt_none ((map_len q2).trans r2.len.symm) hl)
theorem attr_exc(O:KA Z w)(R:Rel Z w γ H n s){c a:Nat}{fs:VL}{kv:V→Bool}{km:Nat→Bool}{rv:Value}(e:attrK (.exc c fs) a H kv km=true)(x:VR Z γ s.heap (.exc c fs) rv):AttrJ Z w γ s rv (nmS a) kv km:=by
 obtain⟨cd,hcd,e⟩:=optK_some (o:=clT.get c) e
 obtain⟨v,hv,e⟩:=optK_some (o:=fieldAt cd.fields fs a) e
 obtain⟨_,_,_,_,_,_,rfl,hc2,k2,g,f2,g2,n2,r2,q2⟩:=x.excI
 rw [hcd] at hc2;cases hc2
 obtain⟨p1,rv,p2,vr⟩:=fieldAt_spec hv r2 q2
 have E:=O.exc _ _ hcd k2
 unfold excOk at E
 simp only [Bool.and_eq_true,beq_iff_eq,List.all_eq_true] at E
 obtain⟨⟨⟨⟨⟨e1,e2⟩,e3⟩,e4⟩,_⟩,e5⟩:=E
 exact .val _ _ e vr (exc_of R.st g n2 e1 e2 e3 e4 (e5 _ p1) p2 vr.handed)
theorem attrK_ok(O:KA Z w)(R:Rel Z w γ H n s){v:V}{a:Nat}{kv:V→Bool}{km:Nat→Bool}{rv:Value}(e:attrK v a H kv km=true)(x:VR Z γ s.heap v rv):AttrJ Z w γ s rv (nmS a) kv km:=by
 cases v with
 | a c=>cases c with
  | sym i=>exact attr_sym O R e x
  | _=>exact ff e
 | ref i =>
  obtain⟨ad,rfl,o⟩:=x
  have e:(match H.get i with
  | .inst c fs=>@Option.rec V (fun _=>Bool) (optK (clT.get c) fun cd=>mthK cd a km) kv (fs.look a)
  | .obar=>@Bool.rec (fun _=>Bool) false (km (nat_lit 191)) (Nat.beq a nIntern)
  | _=>false)=true:=e
  cases he:H.get i with
  | inst c fs=>rw [he] at e;exact attr_inst O R o he e
  | obar=>rw [he] at e;exact attr_obar O R o he e
  | _=>rw [he] at e;exact ff e
 | obj c fs=>exact attr_obj O R e x
 | exc c fs=>exact attr_exc O R e x
 | _=>exact ff e
end
section
variable{Z:SA}{w:World}{hd:Bool}{X:Addr→Prop}{γ γ' γ₁:Gh}{h h':Heap}{s s' s₁:Shared}{H H':HT}{n n' N:Nat}{A:Around}{env:Env}{l:FL}{k kx:KV}{sc:List (PS × NameKind)}
theorem MthJ.bound{rv:Value}{name:PS}{f:Nat}{v:V}(R:Rel Z w γ H n s)(vr:VR Z γ s.heap v rv)(J:MthJ Z w s rv name f)(q:k (.met v f) H n=true){E:Value→Shared→Prop}{b:Bool} :
  wpAny (model prog w) A (getAttr rv name b) (PostV Z w NX γ s k) E s:=by
 refine J.1 A _ E b ⟨_,H,n,γ,q,R.push _ (Nat.le_succ _),.push _,?_,rfl,rfl,rfl⟩
 exact .met (Heap.get?_push_size _ rfl) (R.freshFree (Nat.le_refl _)) (vr.mono (Kp.push (X:=NX) _) R.bnd)
theorem sE_attr(O:KA Z w){m:EM}{e:PX}{a:Nat}{x:PS}{p:Pos}(y:SndE Z w sc m e)(ea:nmS a=x)(he:∀ env,eval (.Attribute e x p) env=(do
   let o ← eval e env
   standAt p.atName
   let r ← holding [o] (getAttr o x true)
   letTemporaryGo e o r
   pure r)):SndE Z w sc (Xt m a) (.Attribute e x p):=sndE fun N hd A env l H n k kx γ s P q=>by
 subst ea
 refine Attribute_any_ (wpAny_mono (y.at P q) (fun rv s' z=>?_) fun _ _ z=>z) (he env)
 obtain⟨v,H',n',γ',a',R,K,vr,F⟩:=z
 cases attrK_ok O R a' vr with
 | val u r q1 vr' J=>exact J.1 A _ _ true (PostV.up K F (okT q1 R vr' (Nat.le_succ _)))
 | mth f q1 J=>exact up K F (MthJ.bound R vr J q1)
noncomputable def KeepJ(w:World)(h:Heap)(f:Value):Prop:=∃ k,(k=Keeper.frame∨k=Keeper.machine∨k=Keeper.boundFrame)∧Looks (model prog w) h (keeperOf f) k
theorem prim_in{f:Nat}{vs:VL}(e:primK f vs H n k=true):[191,205,204,207].contains f=true:=by
 rcases brec e with ⟨_,e⟩ | ⟨h,_⟩
 ·rcases brec e with ⟨_,e⟩ | ⟨h,_⟩
  ·rcases brec e with ⟨_,e⟩ | ⟨h,_⟩
   ·obtain⟨h,_⟩:=brecT e;rw [beqT h];rfl
   ·rw [beqT h];rfl
  ·rw [beqT h];rfl
 ·rw [beqT h];rfl
theorem fn_in{T:TR FD}{ih:RR}{f:Nat}{vs:VL}(e:fnK T ih f vs H n k kx=true):((T.get f).isSome || [191,205,204,207].contains f)=true:=by
 unfold fnK at e
 cases h:T.get f with
 | none=>rw [h] at e;rw [prim_in (show primK f vs H n k=true from e)];simp
 | some fd=>rfl
theorem keeper(O:KA Z w)(R:Rel Z w γ H n s){v:V}{vs:VL}{rf:Value}(x:VR Z γ s.heap v rf)(e:(mk fnT FDeed N hd).cl v vs H n k kx=true):KeepJ w s.heap rf:=by
 cases N with
 | zero=>cases e
 | succ N =>
  cases v with
  | a c=>cases c with
   | fn i =>
    obtain rfl:rf=.ref (Z.fnA i):=x
    exact keeps_K (O.fns i (fn_in e)).1 _ R.st
   | clo i =>
    obtain⟨_,_,_,rfl,c1,c2,c3⟩:=x
    obtain⟨o,fd,hm,hd⟩:=O.clo _ _ _ c1
    refine ⟨.frame,.inl rfl,?_⟩
    unfold keeperOf
    refine (Looks.ld (part:=none) (c2 _ hm).1).andThen ?_
    dsimp only
    rw [hd];exact .now
   | blt b =>
    obtain rfl:rf=bltV b:=x
    refine ⟨.machine,.inr (.inl rfl),?_⟩
    rcases b with _ | _ | _ | _ | _ | _ | _ | _ | _ | b <;> exact .now
   | cls c =>
    obtain rfl:rf=.ref (Z.clA c):=x
    obtain⟨cd,hcd,e⟩:=optK_some (o:=clT.get c) e
    exact keeps_K (O.cks _ cd hcd) _ R.st
   | _=>exact ff e
  | met u i =>
   obtain⟨_,_,rfl,g,f,v1⟩:=x.metI
   exact keeps_M (K:=Z.K w.params) (O.fns i (fn_in e)).2 _ ⟨g,R.st⟩
  | _=>exact ff e
theorem evalArgs_spliced{M:Model}{f:Value}{as:List (Bool × Sem Value)}{Q:Args→Shared→Prop}{E:Value→Shared→Prop}(ha:as.any (·.1)=false)(h:wpAny M A (spliced as) (fun vs s'=>Q ⟨vs,[]⟩ s') E s):wpAny M A (evalArgs f true as []) Q E s:=by
 rcases as with _ | ⟨⟨b,x⟩,r⟩
 ·unfold evalArgs
  show wpAny M A (spliced [] >>= _) Q E s
  refine wpAny_bind (wpAny_mono h (fun vs s' h'=>?_) fun _ _ x=>x)
  refine wpAny_holding ?_
  exact wpAny_bind (wpAny_pure (wpAny_bind (wpAny_pure (wpAny_pure h'))))
 ·cases b with
  | true=>simp at ha
  | false=>exact evalArgs_plain h
theorem callArgs{ms:EMs}{es:List PX}{pos:Pos}{f:Value}{first:List Value}{kk:VL→HT→Nat→Bool}(y:SndEs Z w sc ms es)(P:Pre Z w N hd A env sc l H n γ s)(q:ms (mk fnT FDeed N hd) l H n kk kx=true)
  (g:∀ vs H' n' γ' rvs s',kk vs H' n'=true→Pre Z w N hd A env sc l H' n' γ' s'→Kp NX γ s.heap γ' s'.heap→VRs Z γ' s'.heap vs rvs→KeepJ w s'.heap f∧wpAny (model prog w) A (PySem.call f (first ++ rvs)) (PostV Z w NX γ' s' k) (PostX Z w NX γ' s' kx) s') :
  wpAny (model prog w) A (callWith pos f first (backTo pos (starEach es env)) []) (PostV Z w NX γ s k) (PostX Z w NX γ s kx) s:=by
 refine callWith_of (P:=fun h=>KeepJ w h f) ?_ (fun h x=>x) (evalArgs_spliced (y.1 env pos) ?_)
 ·rw [y.1 env pos];rfl
 ·refine wpAny_mono (y.2 N hd A env l H n kk kx γ s pos P q) (fun rvs s' z=>?_) fun _ _ z=>z
  obtain⟨vs,H',n',γ',a,R,K,vr,_,F⟩:=z
  obtain⟨g1,g2⟩:=g vs H' n' γ' rvs s' a (P.go K R) K vr
  exact⟨g1,up K F g2⟩
theorem sE_call(O:KA Z w){m:EM}{ms:EMs}{e:PX}{es:List PX}{p:Pos}(x:SndE Z w sc m e)(y:SndEs Z w sc ms es)(he:∀ env,eval (.Call e es [] p) env=(do callWith p (← eval e env) [] (backTo p (starEach es env)) (backToKw p (keywordEach [] env)))) :
  SndE Z w sc (Xa m ms) (.Call e es [] p):=sndE fun N hd A env l H n k kx γ s P q=>by
 refine Call_ (wpAny_mono (x.at P q) (fun rf s' z=>?_) fun _ _ z=>z) (he env)
 obtain⟨v,H',n',γ',a,R,K,vr,F⟩:=z
 refine up K F (callArgs y (P.go K R) a fun vs H2 n2 γ2 rvs s2 a2 P2 K2 vrs=>?_)
 have vr2:=vr.mono K2 R.bnd
 exact⟨keeper O P2.r vr2 a2,P2.C hd A env v vs H2 n2 k kx γ2 s2 rf rvs P2.a P2.hd P2.f P2.r vr2 vrs a2⟩
end
section
variable{Z:SA}{w:World}{hd:Bool}{X:Addr→Prop}{γ γ' γ₁:Gh}{h h':Heap}{s s' s₁:Shared}{H H':HT}{n n' N:Nat}{A:Around}{env:Env}{l:FL}{k kx:KV}{sc:List (PS × NameKind)}
theorem Kp.but{a:Addr}{i p:Nat}(o:γ.own a=.obj i p)(hs:Heap.SameBut a h h'):Kp X γ h γ h' :=
 ⟨Nat.le_of_eq hs.1.symm,fun _ _=>rfl,fun b ob e f=>(hs.2 b (fun z=>by subst z;rw [o] at f;cases f)).trans e,fun b ob e f _=>⟨ob.slots,(hs.2 b (fun z=>by subst z;rw [o] at f;cases f)).trans e⟩,fun b ob e f _=>(hs.2 b (fun z=>by subst z;rw [o] at f;cases f)).trans e,fun b ob _ e f d=>.same ((hs.2 b (fun z=>by subst z;rw [o] at f;cases f)).trans e) d (TbOk.keep (fun b o' e f=>(hs.2 b (fun z=>by subst z;rw [o] at f;cases f)).trans e) fun _ _=>rfl),fun _ _ e=>⟨e,rfl⟩,fun _ _ e=>e,fun _ _=>rfl,rfl,fun _ e=>e⟩
theorem Rel.lt(R:Rel Z w γ H n s){i:Nat}(e:H.get i≠.gone):i < n:=by
 cases Nat.lt_or_ge i n with
 | inl h=>exact h
 | inr h=>exact absurd (R.fresh i h).1 e
theorem Rel.but(R:Rel Z w γ H n s){a:Addr}{i p:Nat}{o:O}(ow:γ.own a=.obj i p)(hs:Heap.SameBut a s.heap h')(hne:H.get i≠.gone)(hno:H.get i≠.obar)(hH:∀ j,H'.get j=if j=i then o else H.get j){t:Nat}(ht:s.toks≤t)
  (ho:ObjR Z w γ h' i o):Rel Z w γ H' n { s with heap:=h',toks:=t }:=by
 refine R.upd (Kp.but (X:=NX) ow hs) ⟨rfl,rfl⟩ i (fun b j q hj z=>hs.2 b (fun y=>by subst y;rw [ow] at z;cases z;exact hj rfl)) (fun _ _ _ _=>Iff.rfl) (by rw [hH,if_pos rfl];exact ho) (fun j hj=>by rw [hH,if_neg hj]) (fun b q=>?_) (Nat.le_refl _) (R.lt hne) (fun j hj=>(R.fresh j hj).2) (fun j e=>?_) (fun e=>e) rfl ht
 ·show b < h'.objs.size
  rw [hs.1];exact R.bnd b q
 ·have:=R.obi j e
  rw [hH]
  by_cases q:j=i
  ·rw [q] at this;exact absurd this hno
  ·rw [if_neg q];exact this
theorem Own1.of{i:Nat}{a:Addr}{p:Nat}{vs:VL}(R:Rel Z w γ H n s)(e:H.get i=.lst p vs)(o:γ.own a=.obj i 0):Own1 γ i a:=by
 have x:=R.obj i
 rw [e] at x
 obtain⟨b,pre,ws,m,o1,g,pr,v,l1,l2⟩:=x
 obtain rfl:=o1.2 a 0 o
 exact o1
theorem setLst_ok(R:Rel Z w γ H n s){i p:Nat}{xs ys:VL}{a:Addr}{pre ws:List Value}{m:Nat}{v:V}{rv:Value}(e:H.get i=.lst p xs)(o:γ.own a=.obj i 0)(hs:Heap.SameBut a s.heap h')(g:h'.get? a=some ⟨.type "list",none,.seq (pre ++ ws).toArray m,#[]⟩)
  (pr:PreR γ s.heap p pre) (vr:VRs Z γ s.heap ys ws) (l1:pre.length≤1000) (l2:ws.length≤100) (q:setO i (.lst p ys) H (fun h=>k v h n)=true) (vv:VR Z γ s.heap v rv) {t:Nat} (ht:s.toks≤t):PostV Z w NX γ s k rv { s with heap:=h',toks:=t }:=by
 obtain⟨H',q,hH⟩:=setO_spec q
 have K:Kp NX γ s.heap γ h':=.but o hs
 exact⟨v,H',n,γ,q,R.but o hs (by rw [e];exact fun z=>nomatch z) (by rw [e];exact fun z=>nomatch z) hH ht ⟨a,pre,ws,m,Own1.of R e o,g,pr.mono K,vr.mono K R.bnd,l1,l2⟩,K,vv.mono K R.bnd,rfl,rfl,rfl⟩
theorem isLm_spec{a:Nat}(e:isLm a=true):a=nAppend∨a=nPop:=by
 have e:@Bool.rec (fun _=>Bool) (Nat.beq a nPop) true (Nat.beq a nAppend)=true:=e
 rw [beqE a nPop,beqE a nAppend] at e
 by_cases h:a=nAppend
 ·exact .inl h
 ·rw [decide_eq_false h] at e;exact .inr (of_decide_eq_true e)
theorem ap_ne:nAppend≠nPop:=by decide
theorem nm_append:nmS nAppend= "append" := by decide +kernel
theorem nm_pop:nmS nPop= "pop" := by decide +kernel
theorem nm_get:nmS nGet= "get" := by decide +kernel
theorem erase_last{pre w1:List Value}{x:Value}:(pre ++ (w1 ++ [x])).toArray.eraseIdxIfInBounds ((pre ++ (w1 ++ [x])).toArray.size - 1)=(pre ++ w1).toArray:=by
 rw [List.eraseIdxIfInBounds_toArray,← List.append_assoc]
 congr 1
 have:((pre ++ w1 ++ [x]).toArray.size - 1)=(pre ++ w1).length:=by simp
 rw [this,List.eraseIdx_append_of_length_le (Nat.le_refl _)]
 simp
theorem mView_ok{v:V}{kl kd:Nat→Bool}{go:Bool}(e:mView v H kl kd go=true):(∃ i p xs,v=.ref i∧H.get i=.lst p xs∧kl i=true)∨(∃ i d fs,v=.ref i∧H.get i=.dic d fs∧kd i=true)∨go=true:=by
 cases v with
 | ref i =>
  unfold mView at e
  dsimp only at e
  cases h:H.get i with
  | lst p xs=>rw [h] at e;exact .inl ⟨i,p,xs,rfl,h,e⟩
  | dic d fs=>rw [h] at e;exact .inr (.inl ⟨i,d,fs,rfl,h,e⟩)
  | _=>rw [h] at e;exact .inr (.inr e)
 | _=>exact .inr (.inr e)
theorem fits_len{pre ws:List Value}(l1:pre.length≤1000)(l2:ws.length≤100):(pre ++ ws).toArray.size≤sizeLine:=by
 rw [List.size_toArray,List.length_append];exact Nat.le_trans (Nat.add_le_add l1 l2) (by decide)
theorem mLst_ok(R:Rel Z w γ H n s){i p a:Nat}{xs vs:VL}{ad:Addr}{rvs:List Value}(e:H.get i=.lst p xs)(o:γ.own ad=.obj i 0)(vr:VRs Z γ s.heap vs rvs)(q:mLst i p xs a vs H n k=true){E:Value→Shared→Prop} :
  (a=nAppend→wpAny (model prog w) A (PySem.call (.builtin "list.append") ([.ref ad] ++ rvs)) (PostV Z w NX γ s k) E s)∧(a=nPop→wpAny (model prog w) A (PySem.call (.builtin "list.pop") ([.ref ad] ++ rvs)) (PostV Z w NX γ s k) E s):=by
 obtain⟨pre,ws,m,g,pr,v1,l1,l2⟩:=R.lst e o
 unfold mLst at q
 rw [beqE a nPop,beqE a nAppend] at q
 refine ⟨fun ha=>?_,fun ha=>?_⟩
 ·subst ha
  rw [decide_eq_true rfl] at q
  obtain⟨x,rx,rfl,rfl,vx,qq⟩:=as1_ok q vr
  rw [appK_eq] at qq
  obtain⟨q1,qq⟩:=cap_spec qq
  refine append_at (hsz:=fits_len l1 l2) g fun h' hs g'=>?_
  rw [List.push_toArray,List.append_assoc] at g'
  refine setLst_ok R e o hs g' pr (v1.app (.cons vx .nil)) l1 ?_ qq .none (Nat.le_refl _)
  rw [← (v1.app (.cons vx .nil)).len];exact q1
 ·subst ha
  rw [decide_eq_false (Ne.symm ap_ne),decide_eq_true rfl] at q
  cases vs with
  | cons=>exact ff q
  | nil =>
   obtain rfl:=vr.nilI
   obtain⟨us,x,rfl,q'⟩:=popK_spec q
   obtain⟨w1,w2,rfl,p1,p2⟩:=v1.appInv
   obtain⟨rx,rfl,p3⟩:=vrs1 p2
   refine call_meets PySem.F.slot_list_pop ⟨_,g,rfl⟩ PySem.F.entry_list_pop (PySem.F.args_list_pop_1 _) (MeetsSeq.list_pop_last ad _ m rx (by simp) (fits_len l1 l2)) ⟨g,?_⟩
   have ge:=IsL.update g (fun xs=>xs.eraseIdxIfInBounds ((pre ++ (w1 ++ [rx])).toArray.size - 1))
   rw [erase_last] at ge
   exact setLst_ok R e o (Heap.SameBut.update ..) ge pr p1 l1 (Nat.le_trans (by rw [List.length_append];exact Nat.le_add_right _ _) l2) q' p3 (Nat.le_refl _)
theorem mDic_ok(O:KA Z w)(R:Rel Z w γ H n s){i d:Nat}{fs:FL}{vs:VL}{ad:Addr}{rvs:List Value}(e:H.get i=.dic d fs)(o:γ.own ad=.obj i 0)(vr:VRs Z γ s.heap vs rvs)(q:mDic d fs vs H n k=true){E:Value→Shared→Prop} :
  wpAny (model prog w) A (PySem.call (.builtin "dict.get") ([.ref ad] ++ rvs)) (PostV Z w NX γ s k) E s:=by
 obtain⟨kvs,o1,D,r1,r2,r3,r4,_⟩:=R.dic e o
 have lo:(ad == sysModules)=false:=by
  obtain⟨so,hso⟩:=O.sys
  have:=R.stf _ _ hso
  rw [beq_eq_false_iff_ne];intro z;subst z;rw [this] at o;cases o
 obtain⟨_,df,_,rdf,rfl,rfl,v1,v2,q⟩:=as2_ok q vr
 obtain⟨sy,sa,t,q1,rfl,rfl,qq⟩:=asSn_ok q v1
 refine call_meetsIn PySem.F.slot_dict_get D.typeIs PySem.F.entry_dict_get (PySem.F.args_dict_get_3 _ _ _) (meets_dict_get_default (intKind prog w) ad (intKind_is prog w (γ.nu sy:Int) t) lo rdf) ⟨_,D.mapOf,?_⟩
 cases hl:fs.look sy with
 | some x =>
  rw [hl] at qq
  obtain⟨rv,h1,h2⟩:=r3 sy sa x q1 hl
  rw [h1]
  exact okT qq R h2 (Nat.le_succ _)
 | none =>
  rw [hl] at qq
  have:=r4 sy sa q1 hl
  rcases brec qq with ⟨h0,qq⟩ | ⟨h0,qq⟩
  ·obtain⟨hn,qq⟩:=brecT qq
   obtain rfl:=isNo_ok hn v2
   rcases this with h1 | ⟨_,h1⟩ <;> (rw [h1];exact okT qq R .none (Nat.le_succ _))
  ·obtain rfl:=beqT h0
   rw [this.elim id fun z=>nomatch z.1]
   exact okT qq R v2 (Nat.le_succ _)
theorem sE_callM(O:KA Z w){m:EM}{ms:EMs}{e:PX}{es:List PX}{a:Nat}{x:PS}{ap p:Pos}(y:SndE Z w sc m e)(ys:SndEs Z w sc ms es)(ea:nmS a=x)
  (he:∀ env,∃ pl,eval (.Call (.Attribute e x ap) es [] p) env=(do
   let ov ← eval e env
   standAt ap.atName
   let (f,first) ← holding [ov] (getMethod ov x pl)
   callWith p f first (backTo p (starEach es env)) (backToKw p (keywordEach [] env)))):SndE Z w sc (Xm m a ms) (.Call (.Attribute e x ap) es [] p):=sndE fun N hd A env l H n k kx γ s P q=>by
 subst ea
 obtain⟨pl,he⟩:=he env
 refine methodCall_KW (pl:=pl) (wpAny_mono (y.at P q) (fun rv s' z=>?_) fun _ _ z=>z) he
 obtain⟨v,H',n',γ',a',R,K,vr,F⟩:=z
 have P':=P.go K R
 have go:∀ {q:Bool},attrK v a H' (fun w=>ms (mk fnT FDeed N hd) l H' n' (fun vs h n=>(mk fnT FDeed N hd).cl w vs h n k kx) kx) (fun m=>ms (mk fnT FDeed N hd) l H' n' (fun vs h n=>(mk fnT FDeed N hd).cl (.a (.fn m)) (v :: vs) h n k kx) kx)=true →
   wpAny (model prog w) A (getMethod rv (nmS a) pl) (fun fx s₂=>wpAny (model prog w) A (callWith p fx.1 fx.2 (backTo p (starEach es env)) (backToKw p (keywordEach [] env))) (PostV Z w NX γ s k) (PostX Z w NX γ s kx) s₂) (PostX Z w NX γ s kx) s':=by
  intro _ q
  cases attrK_ok O R q vr with
  | val u r q1 vr' J =>
   refine J.2 A _ _ pl ?_
   have R2:Rel Z w γ' H' n' { s' with toks:=s'.toks + 1 }:=R.tok rfl rfl (Nat.le_succ _)
   refine up K F (up (s:=s') (s':={ s' with toks:=s'.toks + 1 }) (.refl ..) ⟨rfl,rfl,rfl⟩ (callArgs ys (P'.go (.refl ..) R2) q1 fun vs H2 n2 γ2 rvs s2 a2 P2 K2 vrs=>?_))
   have vr2:=vr'.mono K2 R2.bnd
   exact⟨keeper O P2.r vr2 a2,P2.C hd A env u vs H2 n2 k kx γ2 s2 r rvs P2.a P2.hd P2.f P2.r vr2 vrs a2⟩
  | mth f q1 J =>
   refine J.2 A _ _ pl ?_
   refine up K F (callArgs ys P' q1 fun vs H2 n2 γ2 rvs s2 a2 P2 K2 vrs=>?_)
   have vr2:=vr.mono K2 R.bnd
   have vf:VR Z γ2 s2.heap (.a (.fn f)) (.ref (Z.fnA f)):=.fn rfl
   exact⟨keeper O P2.r vf a2,P2.C hd A env _ _ H2 n2 k kx γ2 s2 _ _ P2.a P2.hd P2.f P2.r vf (.cons vr2 vrs) a2⟩
 rcases mView_ok a' with ⟨i,p0,xs0,rfl,e0,a'⟩ | ⟨i,d0,fs0,rfl,e0,a'⟩ | a'
 ·obtain⟨ad,rfl,o⟩:=vr.ref_inv
  obtain⟨hm,a'⟩:=brecT a'
  obtain⟨ws0,m0,g0⟩:∃ ws m,s'.heap.get? ad=some ⟨.type "list",none,.seq ws m,#[]⟩:=by obtain⟨pre,ws,m,g,_⟩:=R.lst e0 o;exact⟨_,_,g⟩
  have L0:s'.heap.IsList ad ws0:=⟨_,g0,rfl,_,rfl⟩
  have nd:s'.heap.NoDictAt (.ref ad):=⟨_,g0,rfl⟩
  have fin:∀ (id:String),(a=nAppend→id= "list.append")→(a=nPop→id= "list.pop")→wpAny (model prog w) A (callWith p (.builtin id) [.ref ad] (backTo p (starEach es env)) []) (PostV Z w NX γ s k) (PostX Z w NX γ s kx) s':=by
   intro id i1 i2
   refine up K F (callArgs ys P' a' fun vs H2 n2 γ2 rvs s2 a2 P2 K2 vrs=>⟨⟨.machine,.inr (.inl rfl),.now⟩,?_⟩)
   obtain⟨p1,xs1,e1,a2⟩:=lstAt_spec a2
   have o2:γ2.own ad=.obj i 0:=(K2.own ad (R.bnd _ (by rw [o];exact Ow.noConfusion))).trans o
   obtain⟨j1,j2⟩:=mLst_ok (A:=A) (E:=PostX Z w NX γ2 s2 kx) P2.r e1 o2 vrs a2
   rcases isLm_spec hm with z | z
   ·rw [i1 z];exact j1 z
   ·rw [i2 z];exact j2 z
  rcases isLm_spec hm with z | z
  ·rw [z,nm_append]
   exact getMethod_list_of PySem.F.slot_list_append PySem.F.type_list_append L0 nd (fin _ (fun _=>rfl) fun y=>absurd (z.symm.trans y) ap_ne)
  ·rw [z,nm_pop]
   exact getMethod_list_of PySem.F.slot_list_pop PySem.F.type_list_pop L0 nd (fin _ (fun y=>absurd (y.symm.trans z) ap_ne) fun _=>rfl)
 ·obtain⟨ad,rfl,o⟩:=vr.ref_inv
  obtain⟨hm,a'⟩:=brecT a'
  obtain rfl:=beqT hm
  obtain⟨kvs,o1,D,_⟩:=R.dic e0 o
  rw [nm_get]
  refine getMethod_builtin D.typeIs PySem.F.plainAttrs_dict PySem.F.slot_dict_get PySem.F.type_dict_get D.mapOf.noDict ?_
  refine up K F (callArgs ys P' a' fun vs H2 n2 γ2 rvs s2 a2 P2 K2 vrs=>⟨⟨.machine,.inr (.inl rfl),.now⟩,?_⟩)
  obtain⟨d1,fs1,e1,a2⟩:=dicAt_ok a2
  exact mDic_ok O P2.r e1 ((K2.own ad (R.bnd _ (by rw [o];exact Ow.noConfusion))).trans o) vrs a2
 ·exact go (q:=true) a'
end
noncomputable def Xs(env:Env):Addr→Prop:=fun b=>b=env.locals∨∃ x,env.cells.lookup x=some b
section
variable{Z:SA}{w:World}{hd:Bool}{X:Addr→Prop}{γ γ' γ₁:Gh}{h h':Heap}{s s' s₁:Shared}{H H':HT}{n n' N:Nat}{A:Around}{env:Env}{l l':FL}{k kx:KV}{ks ks':KS}{sc:List (PS × NameKind)}
theorem Kp.nx(x:Kp NX γ h γ' h'):Kp X γ h γ' h':=x.widen fun _ q=>q.elim
inductive PostN(Z:SA)(w:World)(env:Env)(γ:Gh)(s:Shared)(k:FL→HT→Nat→Bool)(s':Shared):Prop
 | mk (l:FL) (H:HT) (n:Nat) (γ':Gh):k l H n=true→Rel Z w γ' H n s'→Kp (Xs env) γ s.heap γ' s'.heap→EnvR Z γ' s'.heap env l→Fro s s'→PostN Z w env γ s k s'
inductive PostR(Z:SA)(w:World)(env:Env)(γ:Gh)(s:Shared)(k:KV)(rv:Value)(s':Shared):Prop
 | mk (v:V) (H:HT) (n:Nat) (γ':Gh):k v H n=true→Rel Z w γ' H n s'→Kp (Xs env) γ s.heap γ' s'.heap→VR Z γ' s'.heap v rv→(∀ c fs,v≠.exc c fs)→(∃ l,EnvR Z γ' s'.heap env l)→Fro s s'→PostR Z w env γ s k rv s'
set_option tactic.hygienic true in
noncomputable def PostF(Z:SA)(w:World)(env:Env)(γ:Gh)(s:Shared)(ks:KS)(f:Flow)(s':Shared):Prop:=match f with
 | .next=>PostN Z w env γ s ks.nx s'
 | .brk=>PostN Z w env γ s ks.bk s'
 | .ret rv=>PostR Z w env γ s ks.rt rv s'
 | .cont=>False
inductive PostEx(Z:SA)(w:World)(env:Env)(γ:Gh)(s:Shared)(xc:V→FL→HT→Nat→Bool)(e:Value)(s':Shared):Prop
 | mk (v:V) (l:FL) (H:HT) (n:Nat) (γ':Gh):xc v l H n=true→Rel Z w γ' H n s'→Kp (Xs env) γ s.heap γ' s'.heap→EnvR Z γ' s'.heap env l→FlyS Z γ' s'.heap env v e→Fro s s'→PostEx Z w env γ s xc e s'
noncomputable def PostE(Z:SA)(w:World)(env:Env)(γ:Gh)(s:Shared)(ks:KS)(e:Value)(s':Shared):Prop:=PostEx Z w env γ s ks.xc e s'
theorem PostN.up{k:FL→HT→Nat→Bool}(K:Kp (Xs env) γ s.heap γ' s'.heap)(F:Fro s s')(x:PostN Z w env γ' s' k s₁):PostN Z w env γ s k s₁ :=
 let ⟨l,H,n,g,a,b,c,d,e⟩:=x;⟨l,H,n,g,a,b,K.trans c,d,F.trans e⟩
theorem PostR.up{rv:Value}(K:Kp (Xs env) γ s.heap γ' s'.heap)(F:Fro s s')(x:PostR Z w env γ' s' k rv s₁):PostR Z w env γ s k rv s₁ :=
 let ⟨l,H,n,g,a,b,c,d,e,en,f⟩:=x;⟨l,H,n,g,a,b,K.trans c,d,e,en,F.trans f⟩
theorem PostN.no{P:Prop}(x:PostN Z w env γ s (fun _ _ _=>false) s'):P:=let ⟨_,_,_,_,q,_,_,_,_⟩:=x;ff q
theorem PostR.no{P:Prop}{rv:Value}(x:PostR Z w env γ s (fun _ _ _=>false) rv s'):P:=let ⟨_,_,_,_,q,_,_,_,_,_,_⟩:=x;ff q
set_option tactic.hygienic true in
theorem PostF.up{f:Flow}(K:Kp (Xs env) γ s.heap γ' s'.heap)(F:Fro s s')(x:PostF Z w env γ' s' ks f s₁):PostF Z w env γ s ks f s₁:=by
 cases f with
 | next=>exact PostN.up K F x
 | brk=>exact PostN.up K F x
 | ret v=>exact PostR.up K F x
 | cont=>exact x
theorem PostE.up{e:Value}(K:Kp (Xs env) γ s.heap γ' s'.heap)(F:Fro s s')(x:PostE Z w env γ' s' ks e s₁):PostE Z w env γ s ks e s₁:=by
 obtain⟨v,l,H,n,g,a,b,c,d,e,f⟩:=x
 exact⟨v,l,H,n,g,a,b,K.trans c,d,e,F.trans f⟩
theorem upS{t:Sem Flow}(K:Kp (Xs env) γ s.heap γ' s'.heap)(F:Fro s s')(x:wpAny (model prog w) A t (PostF Z w env γ' s' ks) (PostE Z w env γ' s' ks) s₁) :
  wpAny (model prog w) A t (PostF Z w env γ s ks) (PostE Z w env γ s ks) s₁:=wpAny_mono x (fun _ _ z=>z.up K F) fun _ _ z=>z.up K F
theorem FrOk.go(K:Kp (Xs env) γ h γ' h')(bnd:∀ b,γ.own b≠.free→b < h.objs.size)(x:FrOk A γ h env)(e':EnvR Z γ' h' env l):FrOk A γ' h' env:=x.monoG K (fun b o e f=>by
 by_cases hX:Xs env b
 ·obtain⟨m,⟨od,es,ep,g1,g2,_⟩,_,hc,_⟩:=e'
  rcases hX with rfl | ⟨y,hy⟩
  ·exact⟨od,g1,fun _ vs z=>by rw [g2] at z;cases z⟩
  ·obtain⟨oc,v,g3,g4,_⟩:=hc.at_ y b hy
   exact⟨oc,g3,fun _ vs z=>by rw [g4] at z;cases z⟩
 ·obtain⟨sl,g⟩:=K.env _ _ e f hX;exact⟨_,g,id⟩) bnd
theorem Pre.goS(p:Pre Z w N hd A env sc l H n γ s)(K:Kp (Xs env) γ s.heap γ' s'.heap)(r:Rel Z w γ' H' n' s')(e:EnvR Z γ' s'.heap env l'):Pre Z w N hd A env sc l' H' n' γ' s' :=
 ⟨p.C,p.a,p.hd.mono K,p.es,p.ec,p.f.go K p.r.bnd e,r,e⟩
noncomputable def SndS(Z:SA)(w:World)(sc:List (PS × NameKind))(m:SM)(b:List Stmt):Prop:=∀ (N:Nat) (hd:Bool) (A:Around) (env:Env) (l:FL) (H:HT) (n:Nat) (ks:KS) (γ:Gh) (s:Shared),
 Pre Z w N hd A env sc l H n γ s→m (mk fnT FDeed N hd) l H n ks=true→wpAny (model prog w) A (execs b env) (PostF Z w env γ s ks) (PostE Z w env γ s ks) s
noncomputable def SndS1(Z:SA)(w:World)(sc:List (PS × NameKind))(m:SM)(b:Stmt):Prop:=∀ (N:Nat) (hd:Bool) (A:Around) (env:Env) (l:FL) (H:HT) (n:Nat) (ks:KS) (γ:Gh) (s:Shared),
 Pre Z w N hd A env sc l H n γ s→m (mk fnT FDeed N hd) l H n ks=true→wpAny (model prog w) A (exec b env) (PostF Z w env γ s ks) (PostE Z w env γ s ks) s
theorem sS_nil:SndS Z w sc Yn []:=fun N hd A env l H n ks γ s P q=>wpAny_execs_nil ⟨l,H,n,γ,q,P.r,.refl ..,P.e,.refl _⟩
set_option tactic.hygienic true in
theorem sS_cons{m r:SM}{st:Stmt}{b:List Stmt}(x:SndS1 Z w sc m st)(y:SndS Z w sc r b):SndS Z w sc (Yc m r) (st :: b):=fun N hd A env l H n ks γ s P q=>by
 refine wpAny_execs_cons (wpAny_mono (x N hd A env l H n ⟨fun l h n=>r (mk fnT FDeed N hd) l h n ks,ks.rt,ks.bk,ks.xc⟩ γ s P q) (fun f s' z=>?_) fun _ _ z=>z)
 cases f with
 | next =>
  obtain⟨l',H',n',γ',a,R,K,e,F⟩:=z
  exact upS K F (y N hd A env l' H' n' ks γ' s' (P.goS K R e) a)
 | brk=>exact z
 | cont=>exact z
 | ret v=>exact z
theorem SndE.inS{m:EM}{e:PX}{kv kv':KV}(x:SndE Z w sc m e)(P:Pre Z w N hd A env sc l H n γ s)(q:m (mk fnT FDeed N hd) l H n kv (fun e h n=>ks.xc e l h n)=true){f:Value→Sem Flow}
  (g:∀ v H' n' γ' rv s',kv v H' n'=true→Pre Z w N hd A env sc l H' n' γ' s'→Kp NX γ s.heap γ' s'.heap→VR Z γ' s'.heap v rv→Fro s s'→wpAny (model prog w) A (f rv) (PostF Z w env γ' s' ks) (PostE Z w env γ' s' ks) s') :
  wpAny (model prog w) A (eval e env) (fun rv s'=>wpAny (model prog w) A (f rv) (PostF Z w env γ s ks) (PostE Z w env γ s ks) s') (PostE Z w env γ s ks) s:=by
 refine wpAny_mono (x.at P q) (fun rv s' z=>?_) fun e s' z=>?_
 ·obtain⟨v,H',n',γ',a,R,K,vr,F⟩:=z
  exact upS K.nx F (g v H' n' γ' rv s' a (P.go K R) K vr F)
 ·obtain⟨v,H',n',γ',a,R,K,⟨e',ovs,rfl,fd,T,oT,ts,fl,t1,t2,t3,t4,t5,t6,t7⟩,F⟩:=z
  exact⟨v,l,H',n',γ',a,R,K.nx,P.e.mono K P.r.bnd,⟨e',ovs,rfl,fd,.inr ⟨T,oT,ts,fl,t1,t2,t3,t4,t5,t6,.inl t7⟩⟩,F⟩
theorem PostX.toE{e:Value}(P:Pre Z w N hd A env sc l H n γ s)(z:PostX Z w NX γ s (fun e h n=>ks.xc e l h n) e s'):PostE Z w env γ s ks e s':=by
 obtain⟨v,H',n',γ',a,R,K,⟨e',ovs,rfl,fd,T,oT,ts,fl,t1,t2,t3,t4,t5,t6,t7⟩,F⟩:=z
 exact⟨v,l,H',n',γ',a,R,K.nx,P.e.mono K P.r.bnd,⟨e',ovs,rfl,fd,.inr ⟨T,oT,ts,fl,t1,t2,t3,t4,t5,t6,.inl t7⟩⟩,F⟩
theorem sS_expr{m:EM}{e:PX}{p:Pos}(x:SndE Z w sc m e)(hi:∀ env:Env,env.globals=mainGlobals→env.scope.kind=.function→interactive env=false)(hs:∀ env,swapsWith e none p.line env=pure false):SndS1 Z w sc (sExpr m) (.Expr e p):=fun N hd A env l H n ks γ s P q=>by
 rw [exec_Expr env e p (hi env P.es.glob P.es.kind) (hs env)]
 refine wpAny_bind (wpAny_standAt (wpAny_bind ?_))
 refine x.inS (kv':=fun _ _ _=>true) P q fun v H' n' γ' rv s' a P' K vr F=>wpAny_dropValue ?_
 exact⟨l,H',n',γ',a,P'.r,.refl ..,P'.e,.refl _⟩
theorem sS_ret{m:EM}{e:PX}{p:Pos}(x:SndE Z w sc m e):SndS1 Z w sc (sRet m) (.Return (some e) p):=fun N hd A env l H n ks γ s P q=>by
 refine wpAny_Return_some (wpAny_mono (x.at P q) (fun rv s' z=>?_) fun e s' z=>z.toE P)
 obtain⟨v,H',n',γ',a,R,K,vr,F⟩:=z
 have:(∀ c fs,v≠.exc c fs)∧ks.rt v H' n'=true:=by
  cases v with
  | exc c fs=>cases a
  | _=>exact⟨(fun _ _ z=>nomatch z),a⟩
 exact⟨v,H',n',γ',this.2,R,K.nx,vr,this.1,⟨l,P.e.mono K P.r.bnd⟩,F⟩
theorem sS_ret0{p:Pos}:SndS1 Z w sc (sRet eNone) (.Return none p):=fun N hd A env l H n ks γ s P q=>wpAny_Return_none ⟨_,H,n,γ,q,P.r,.refl ..,.none,(fun _ _ z=>nomatch z),⟨l,P.e⟩,.refl _⟩
theorem sS_brk{p:Pos}:SndS1 Z w sc sBreak (.Break p):=fun N hd A env l H n ks γ s P q=>wpAny_Break ⟨l,H,n,γ,q,P.r,.refl ..,P.e,.refl _⟩
theorem sS_if{t:TM}{a b:SM}{e:PX}{b1 b2:List Stmt}{p:Pos}(x:SndT Z w sc t e)(y:SndS Z w sc a b1)(z:SndS Z w sc b b2):SndS1 Z w sc (sIf t a b) (.If e b1 b2 p):=fun N hd A env l H n ks γ s P q=>by
 refine wpAny_If (wpAny_mono (x N hd A env l H n _ _ γ s P q _ fun _=>rfl) (fun r s' u=>?_) fun e s' z=>z.toE P)
 obtain⟨H',n',γ',a,R,K,F⟩:=u
 cases r with
 | true=>exact upS K.nx F (y N hd A env l H' n' ks γ' s' (P.go K R) a)
 | false=>exact upS K.nx F (z N hd A env l H' n' ks γ' s' (P.go K R) a)
end
end Mine
end
section
open PySem renaming Expr→PX,Str→PS
open PySem PySem.W PySem.Calls PyProof.Rows PySem.SeqAt
namespace Mine
theorem entry_unchain:entryFor table "proto.unchain" = some Builtin.«proto.unchain»:=entryFor_of_tree (by kernel_rfl)
inductive Reach(h:Heap):Addr→Addr→Prop
 | here (a:Addr):Reach h a a
 | step {a b c:Addr} {o:Obj} {ovs:Array Value}:h.get? a=some o→o.data=.fields ovs→ovs[2]?=some (.ref b)→Reach h b c→Reach h a c
section
variable{w:World}{γ:Gh}{h:Heap}
set_option tactic.hygienic true in
theorem Reach.next{a b c:Addr}{o:Obj}{ovs:Array Value}(r:Reach h a b)(g:h.get? b=some o)(d:o.data=.fields ovs)(e:ovs[2]?=some (.ref c)):Reach h a c:=by
 induction r with
 | here a=>exact .step g d e (.here _)
 | step g1 d1 e1 _ ih=>exact .step g1 d1 e1 (ih g)
set_option tactic.hygienic true in
theorem Reach.first{a b c:Addr}{o:Obj}{ovs:Array Value}(r:Reach h a b)(g:h.get? b=some o)(d:o.data=.fields ovs)(e:ovs[2]?=some (.ref c)):∃ a' oa va,h.get? a=some oa∧oa.data=.fields va∧va[2]?=some (.ref a')∧Reach h a' c:=by
 cases r with
 | here=>exact⟨_,_,_,g,d,e,.here _⟩
 | step g1 d1 e1 r1=>exact⟨_,_,_,g1,d1,e1,r1.next g d e⟩
set_option tactic.hygienic true in
theorem ChainOk.le{a b:Addr}(x:ChainOk γ h a)(r:Reach h a b):b≤a:=by
 induction r with
 | here=>exact Nat.le_refl _
 | step g1 d1 e1 r1 ih =>
  cases x with
  | last g d _ e=>rw [g1] at g;cases g;rw [d1] at d;cases d;rw [e1] at e;cases e
  | next g d _ e lt y =>
   rw [g1] at g;cases g;rw [d1] at d;cases d;rw [e1] at e;cases e
   exact Nat.le_trans (ih y) (Nat.le_of_lt lt)
set_option tactic.hygienic true in
theorem unchain_ok{e:Addr}:∀ {o slow:Addr} (x:ChainOk γ h o) (y:ChainOk γ h slow) (r:Reach h slow o) (lt:o < e) (t:Bool) {A:Around} {R:Result→Shared→Prop} {s:Shared},s.heap=h→R (.ok (.ret .none)) s →
  codeAny (model prog w) A (.builtin "proto.unchain" ⟨[.ref e,.ref o,.ref slow,.bool t],[]⟩) R s:=by
 intro o slow x
 induction x generalizing slow with
 | @last e0 o0 ovs g d _ e1 =>
  intro y r lt t A R s hs q
  subst hs
  refine codeAny_builtin entry_unchain ?_
  unfold Builtin.«proto.unchain»
  refine wpAny_bind (wpAny_field g d e1 ?_)
  rw [if_pos (by decide)]
  first | exact wpAny_pure q | exact wpAny_bind (wpAny_pure (wpAny_pure q))
 | @next e0 c0 o0 ovs g d _ e1 lt0 y0 ih =>
  intro y r lt t A R s hs q
  subst hs
  refine codeAny_builtin entry_unchain ?_
  unfold Builtin.«proto.unchain»
  refine wpAny_bind (wpAny_field g d e1 ?_)
  have n1:(Value.ref c0 == Value.ref e)=false:=by rw [beq_eq_false_iff_ne];intro z;cases z;exact Nat.lt_irrefl _ (Nat.lt_trans lt0 lt)
  have n2:(Value.ref c0 == Value.ref slow)=false:=by
   rw [beq_eq_false_iff_ne];intro z;cases z
   exact Nat.lt_irrefl _ (Nat.lt_of_lt_of_le lt0 (y.le r))
  have n0:(Value.ref c0 == Value.none)=false:=rfl
  rw [n0,if_neg (by decide),n1,if_neg (by decide),n2,if_neg (by decide)]
  cases t with
  | false =>
   refine wpAny_bind (wpAny_pure ?_)
   exact wpAny_pure ⟨Code.quiet_builtin _ (by decide +kernel),ih y (r.next g d e1) (Nat.lt_trans lt0 lt) true rfl q⟩
  | true =>
   obtain⟨a',oa,va,g2,d2,e2,r2⟩:=r.first g d e1
   refine wpAny_bind (wpAny_field g2 d2 e2 ?_)
   refine wpAny_pure ⟨Code.quiet_builtin _ (by decide +kernel),ih ?_ r2 (Nat.lt_trans lt0 lt) false rfl q⟩
   cases y with
   | last g' d' _ e'=>rw [g2] at g';cases g';rw [d2] at d';cases d';rw [e2] at e';cases e'
   | next g' d' _ e' _ y'=>rw [g2] at g';cases g';rw [d2] at d';cases d';rw [e2] at e';cases e';exact y'
theorem raiseNew_ok{α:Type}{A:Around}{hd:Bool}{s:Shared}(hh:HdOk A hd γ s.heap){e:Addr}{o:Obj}{ovs:Array Value}{Q:α→Shared→Prop}{E:Value→Shared→Prop}(he:s.heap.get? e=some o)(hd':o.data=.fields ovs)(hz:2 < ovs.size)
  (hlt:∀ c,A.handled=some (.ref c)→c < e)
  (hE:∀ h' ovs',Heap.SameBut e s.heap h'→h'.get? e=some { o with data:=.fields ovs' }→(ovs'=ovs∧A.handled=none∨∃ c,A.handled=some (.ref c)∧ChainOk γ s.heap c∧ovs'=ovs.setIfInBounds 2 (.ref c))→E (.ref e) { s with heap:=h' }) :
  wpAny (model prog w) A (raiseNew (.ref e):Sem α) Q E s:=by
 unfold raiseNew
 refine wpAny_bind (wpAny_handled ?_)
 rcases hh.2 with hn | ⟨c,hc,ch⟩
 ·rw [hn]
  refine wpAny_bind (wpAny_pure (wpAny_throw ?_))
  obtain⟨oc,od,oda,osl⟩:=o
  dsimp only at hd'
  subst hd'
  exact hE s.heap ovs (.refl ..) he (.inl ⟨rfl,hn⟩)
 ·have lt:=hlt c hc
  rw [hc]
  dsimp only
  have n1:(Value.ref c != Value.ref e)=true:=by rw [bne_iff_ne];intro z;cases z;exact Nat.lt_irrefl _ lt
  rw [if_pos n1]
  refine wpAny_bind (wpAny_holding (wpAny_runValue ?_))
  refine unchain_ok ch ch (.here _) lt false rfl ?_
  show wpAny _ _ (updateField e 2 (.ref c) >>= _) _ _ s
  refine wpAny_bind ?_
  unfold updateField
  refine wpAny_bind (wpAny_load he ?_)
  rw [hd']
  dsimp only
  rw [if_pos hz]
  refine wpAny_update he (wpAny_throw ?_)
  refine hE _ (ovs.setIfInBounds 2 (.ref c)) (Heap.SameBut.update ..) ?_ (.inr ⟨c,hc,ch,rfl⟩)
  obtain⟨oc,od,oda,osl⟩:=o
  dsimp only at hd'
  subst hd'
  exact Heap.get?_update_self _ he rfl
end
section
variable{w:World}{γ:Gh}{A:Around}{hd:Bool}{E:Value→Shared→Prop}{s:Shared}
theorem stop_ok{α:Type}{A:Around}{s:Shared}{h:Heap}{Q:α→Shared→Prop}{E:Value→Shared→Prop}(hh:HdOk A hd γ h)(lt:h.objs.size≤s.heap.objs.size)(kp:∀ c,ChainOk γ h c→c < s.heap.objs.size∧ChainOk γ s.heap c)
  (hE:∀ h' a,(∀ b o,s.heap.get? b=some o→h'.get? b=some o)→s.heap.objs.size≤h'.objs.size→(∃ o,h'.get? a=some o∧o.cls=.type "StopIteration")→E (.ref a) { s with heap:=h' }) :
  wpAny (model prog w) A (do raiseNew (← newExc (.type "StopIteration") []):Sem α) Q E s:=by
 refine wpAny_bind ?_
 simp only [newExc,newTuple]
 refine wpAny_bind (wpAny_newObj_type ?_ (by size_fits))
 refine wpAny_bind (m:=firstArgMember _ _) (wpAny_of_eq (a:=Value.none) (by first | rfl | (simp only [firstArgMember];rfl)) ?_)
 refine wpAny_newObj_type ?_ (by size_fits)
 have hh':HdOk A hd γ ((s.heap.push { cls:=.type "tuple",data:=.seq #[] }).push { cls:=.type "StopIteration",data:=.fields (#[.ref s.heap.objs.size,.none,.none,.none,.bool false,.none] ++ ownMembersOf (.type "StopIteration") []) }):=by
  refine ⟨hh.1,hh.2.imp id fun⟨e,a,b⟩=>⟨e,a,?_⟩⟩
  have:=(kp e b).2
  exact this.mono (X:=NX) (Kp.more (fun _ _ z=>Heap.get?_push_of_some _ (Heap.get?_push_of_some _ z)) (by rw [Heap.size_push,Heap.size_push];omega))
 have ge:((s.heap.push { cls:=.type "tuple",data:=.seq #[] }).push { cls:=.type "StopIteration",data:=.fields (#[.ref s.heap.objs.size,.none,.none,.none,.bool false,.none] ++ ownMembersOf (.type "StopIteration") []) }).get? (s.heap.objs.size + 1)=some { cls:=.type "StopIteration",data:=.fields (#[.ref s.heap.objs.size,.none,.none,.none,.bool false,.none] ++ ownMembersOf (.type "StopIteration") []) }:=by
  have:=Heap.get?_push_size (s.heap.push { cls:=.type "tuple",data:=.seq #[] }) (o:={ cls:=.type "StopIteration",data:=.fields (#[.ref s.heap.objs.size,.none,.none,.none,.bool false,.none] ++ ownMembersOf (.type "StopIteration") []) }) rfl
  rwa [Heap.size_push] at this
 rw [Heap.size_push]
 refine raiseNew_ok (s:={ s with heap:=_ }) hh' ge rfl (by rw [Array.size_append];exact Nat.lt_of_lt_of_le (show 2 < 6 by decide) (Nat.le_add_right ..)) (fun c hc=>?_) fun h' ovs' hs g _=>?_
 ·rcases hh.2 with z | ⟨e,a,b⟩
  ·rw [z] at hc;cases hc
  ·rw [a] at hc;cases hc;exact Nat.lt_succ_of_lt (kp _ b).1
 ·refine hE h' _ (fun b o z=>(hs.2 b ?_).trans (Heap.get?_push_of_some _ (Heap.get?_push_of_some _ z))) (by rw [hs.1];simp only [Array.size_push];exact Nat.le_trans (Nat.le_succ _) (Nat.le_succ _)) ⟨_,g,rfl⟩
  exact Nat.ne_of_lt (Nat.lt_succ_of_lt (Heap.lt_size z))
structure ItKeep(it:Addr)(h h':Heap):Prop where
 keep:∀ b o,b≠it→h.get? b=some o→h'.get? b=some o
 size:h.objs.size≤h'.objs.size
set_option tactic.hygienic true in
theorem chain_update{it:Addr}{h h':Heap}(hs:Heap.SameBut it h h')(f:γ.own it≠.exn){c:Addr}(x:ChainOk γ h c):c < h'.objs.size∧ChainOk γ h' c:=by
 have lt:c < h.objs.size:=by cases x with | last g _ _ _=>exact Heap.lt_size g | next g _ _ _ _ _=>exact Heap.lt_size g
 refine ⟨by rw [hs.1];exact lt,?_⟩
 induction x with
 | last a b c d=>exact .last ((hs.2 _ (fun z=>f (by rw [← z];exact c))).trans a) b c d
 | next a b c d e y ih=>exact .next ((hs.2 _ (fun z=>f (by rw [← z];exact c))).trans a) b c d e (ih (Nat.lt_trans e lt))
set_option tactic.hygienic true in
theorem list_end{it l:Addr}{i:Nat}{items}{Q:Option Value→Shared→Prop}(hh:HdOk A hd γ s.heap)(f:γ.own it≠.exn)
  (hit:s.heap.IsListIter it l i) (hl:s.heap.IsList l items) (hx:items[i]?=none)
  (hQ:∀ h',ItKeep it s.heap h'→Q none { s with heap:=h' }):wpAny (model prog w) A (pyNext (.ref it)) Q E s:=by
 obtain⟨o,ho,hc,hd⟩:=id hit
 obtain⟨ol,hol,_,nl,hdl⟩:=hl
 unfold pyNext
 refine wpAny_bind (wpAny_attempt (wpAny_callSpecial?_slot (name:=Str.ofString "__next__") hit.typeIs slot_listiter_next
  (wpAny_call_entry slot_listiter_next hit.typeIs entry_listiter_next ?_ (args_listiter_next _))))
 show wpAny _ _ (field (.ref it) 0 >>= _) _ _ s
 refine wpAny_bind (wpAny_field ho hd (x:=.ref l) rfl ?_)
 show wpAny _ _ (if (Value.ref l == Value.none)=true then _ else _) _ _ s
 rw [if_neg (show ¬ ((Value.ref l == Value.none)=true) from Bool.false_ne_true)]
 show wpAny _ _ (field (.ref it) 1 >>= _) _ _ s
 refine wpAny_bind (wpAny_field ho hd (x:=.int i 0) rfl ?_)
 show wpAny _ _ (seqItems? (.ref l) >>= _) _ _ s
 refine wpAny_bind (wpAny_seqItems hol hdl ?_)
 simp only [Int.toNat_natCast,hx]
 refine wpAny_bind (wpAny_rule (wpAny_bind (wpAny_setField ho hd (by simp) ?_)))
 have hs:=Heap.SameBut.update s.heap it (Obj.mapFields fun x=>x.setIfInBounds 0 Value.none)
 refine stop_ok (hd:=_) (γ:=γ) (h:=s.heap) (A:=A.in1) (s:={ s with heap:=_ }) hh.in1 (by rw [hs.1];exact Nat.le_refl _) (fun c x=>chain_update hs f x) fun h' a k z g=>?_
 refine wpAny_bind (wpAny_isInstance (T:= "StopIteration") (b:=true) g isSubtype_stop ?_)
 exact wpAny_pure (hQ _ ⟨fun b o hb e=>k _ _ ((hs.2 b hb).trans e),by rw [hs.1] at z;exact z⟩)
set_option tactic.hygienic true in
theorem tuple_end{it t:Addr}{i:Nat}{items}{Q:Option Value→Shared→Prop}(hh:HdOk A hd γ s.heap)(f:γ.own it≠.exn)
  (hit:IsTupIter s.heap it t i) (ht:IsTup s.heap t items) (hx:items[i]?=none)
  (hQ:∀ h',ItKeep it s.heap h'→Q none { s with heap:=h' }):wpAny (model prog w) A (pyNext (.ref it)) Q E s:=by
 obtain⟨o,ho,hc,hd⟩:=id hit
 obtain⟨ol,hol,_,nl,hdl⟩:=ht
 unfold pyNext
 refine wpAny_bind (wpAny_attempt (wpAny_callSpecial?_slot (name:=Str.ofString "__next__") hit.typeIs slot_tupleiter_next
  (wpAny_call_entry slot_tupleiter_next hit.typeIs entry_tupleiter_next ?_ (args_tupleiter_next _))))
 show wpAny _ _ (field (.ref it) 0 >>= _) _ _ s
 refine wpAny_bind (wpAny_field ho hd (x:=.ref t) rfl ?_)
 show wpAny _ _ (if (Value.ref t == Value.none)=true then _ else _) _ _ s
 rw [if_neg (show ¬ ((Value.ref t == Value.none)=true) from Bool.false_ne_true)]
 show wpAny _ _ (field (.ref it) 1 >>= _) _ _ s
 refine wpAny_bind (wpAny_field ho hd (x:=.int i 0) rfl ?_)
 show wpAny _ _ (seqItems? (.ref t) >>= _) _ _ s
 refine wpAny_bind (wpAny_seqItems hol hdl ?_)
 simp only [Int.toNat_natCast,hx]
 refine wpAny_bind (wpAny_rule (wpAny_bind (wpAny_setField ho hd (by simp) ?_)))
 have hs:=Heap.SameBut.update s.heap it (Obj.mapFields fun x=>x.setIfInBounds 0 Value.none)
 refine stop_ok (hd:=_) (γ:=γ) (h:=s.heap) (A:=A.in1) (s:={ s with heap:=_ }) hh.in1 (by rw [hs.1];exact Nat.le_refl _) (fun c x=>chain_update hs f x) fun h' a k z g=>?_
 refine wpAny_bind (wpAny_isInstance (T:= "StopIteration") (b:=true) g isSubtype_stop ?_)
 exact wpAny_pure (hQ _ ⟨fun b o hb e=>k _ _ ((hs.2 b hb).trans e),by rw [hs.1] at z;exact z⟩)
end
theorem FL.look_cons(k:Nat)(v:V)(r:FL)(x:Nat):(FL.cons k v r).look x=if k=x then some v else r.look x:=by
 show @Bool.rec (fun _=>Option V) (r.look x) (some v) (Nat.beq k x)=_
 rw [beqE k x]
 by_cases h:k=x
 ·rw [decide_eq_true h,if_pos h]
 ·rw [decide_eq_false h,if_neg h]
theorem FL.setK_spec{x:Nat}{v:V}:∀ {l:FL} {k:FL→Bool},l.setK x v k=true→∃ l',k l'=true∧∀ y,l'.look y=if y=x then some v else l.look y:=by
 intro l
 induction l with
 | nil =>
  intro k e
  refine ⟨.cons x v .nil,e,fun y=>?_⟩
  rw [FL.look_cons]
  by_cases h:x=y
  ·rw [if_pos h,if_pos h.symm]
  ·rw [if_neg h,if_neg (Ne.symm h)]
 | cons a w r ih =>
  intro k e
  have e:@Bool.rec (fun _=>Bool) (r.setK x v fun r'=>k (.cons a w r')) (k (.cons a v r)) (Nat.beq a x)=true:=e
  rw [beqE a x] at e
  by_cases h:a=x
  ·rw [decide_eq_true h] at e
   refine ⟨_,e,fun y=>?_⟩
   subst h
   rw [FL.look_cons,FL.look_cons]
   by_cases h:a=y
   ·rw [if_pos h,if_pos h.symm]
   ·rw [if_neg h,if_neg (Ne.symm h),if_neg h]
  ·rw [decide_eq_false h] at e
   obtain⟨l',e1,e2⟩:=ih e
   refine ⟨_,e1,fun y=>?_⟩
   rw [FL.look_cons,FL.look_cons,e2]
   by_cases q:a=y
   ·rw [if_pos q,if_pos q,if_neg (by rw [← q];exact h)]
   ·rw [if_neg q,if_neg q]
section
variable{Z:SA}{w:World}{hd:Bool}{X:Addr→Prop}{γ γ' γ₁:Gh}{h h':Heap}{s s' s₁:Shared}{H H':HT}{n n' N:Nat}{A:Around}{env:Env}{l l':FL}{k kx:KV}{ks ks':KS}{sc:List (PS × NameKind)}
theorem Kp.butX{a:Addr}(o:γ.own a=.env)(x:X a)(hs:Heap.SameBut a h h'):Kp X γ h γ h' :=
 ⟨Nat.le_of_eq hs.1.symm,fun _ _=>rfl,fun b ob e f=>(hs.2 b (fun z=>by subst z;rw [o] at f;cases f)).trans e,fun b ob e f nx=>⟨ob.slots,(hs.2 b (fun z=>nx (z ▸ x))).trans e⟩,fun b ob e f _=>(hs.2 b (fun z=>by subst z;rw [o] at f;cases f)).trans e,fun b ob _ e f d=>.same ((hs.2 b (fun z=>by subst z;rw [o] at f;cases f)).trans e) d (TbOk.keep (fun b o' e f=>(hs.2 b (fun z=>by subst z;rw [o] at f;cases f)).trans e) fun _ _=>rfl),fun _ _ e=>⟨e,rfl⟩,fun _ _ e=>e,fun _ _=>rfl,rfl,fun _ e=>e⟩
theorem Rel.butX(R:Rel Z w γ H n s){a:Addr}(ow:γ.own a=.env)(hs:Heap.SameBut a s.heap h'){t:Nat}(ht:s.toks≤t):Rel Z w γ H n { s with heap:=h',toks:=t }:=by
 have K:Kp (fun b=>b=a) γ s.heap γ h':=.butX ow rfl hs
 refine ⟨fun b o e=>K.free b o (R.st b o e) (R.stf b o e),R.stf,fun b q=>?_,fun i=>?_,R.fresh,R.sym.mono K ⟨rfl,rfl⟩,R.obi,R.sym0,?_,R.limf,R.gens,fun e=>R.tkn (Nat.le_zero.mp (e ▸ ht))⟩
 ·show b < h'.objs.size
  rw [hs.1];exact R.bnd b q
 ·exact (R.obj i).mono K R.bnd ⟨rfl,rfl⟩ (fun b p q=>hs.2 b (fun z=>by subst z;rw [ow] at q;cases q)) fun b p=>Iff.rfl
 ·obtain⟨mc,⟨o,es,ep,q,r⟩,u⟩:=R.lim
  exact⟨mc,⟨o,es,ep,K.free _ _ q R.limf,r⟩,u⟩
structure Stored(Z:SA)(w:World)(env:Env)(X:Addr→Prop)(γ:Gh)(H:HT)(n:Nat)(s:Shared)(l':FL)(s':Shared):Prop where
 f1:Rel Z w γ H n s'
 f2:Kp X γ s.heap γ s'.heap
 f3:EnvR Z γ s'.heap env l'
 f4:Fro s s'
theorem store_look{x:Nat}{v:V}{rv:Value}{E:Value→Shared→Prop}(es:EnvS env)(R:Rel Z w γ H n s)(en:EnvR Z γ s.heap env l)(hx:x < names.length)(hk:env.kindOf (nmS x)=some .local∨env.kindOf (nmS x)=some .cell)
  (vr:VR Z γ s.heap v rv) (hl':∀ y,l'.look y=if y=x then some v else l.look y) (x1:X env.locals) (x2:∀ c,env.kindOf (nmS x)=some .cell→env.cells.lookup (nmS x)=some c→X c):wpAny (model prog w) A (storeName env (nmS x) rv) (fun _ s'=>Stored Z w env X γ H n s l' s') E s:=by
 obtain⟨m,hn,ho,hc,hl⟩:=en
 rcases hk with hk | hk
 ·refine wpAny_storeName_local hk hn (fun h' hn' hs=>?_) (by rw [es.kind];rfl)
  have K:Kp X γ s.heap γ h':=.butX ho x1 hs
  have ne:∀ {c:Addr} {oc:Obj} {v:Option Value},s.heap.get? c=some oc→oc.data=.cell v→c≠env.locals:=by
   intro c oc v a b z
   subst z
   obtain⟨od,_,_,g,d,_⟩:=hn
   rw [a] at g;cases g;rw [b] at d;cases d
  refine ⟨R.butX ho hs (Nat.le_succ _),K,⟨_,hn',ho,⟨fun y c e=>?_,hc.has,hc.inj⟩,fun y u e=>?_⟩,rfl,rfl,rfl⟩
  ·obtain⟨oc,v,a,b,d⟩:=hc.at_ y c e
   exact⟨oc,v,(hs.2 c (ne a b)).trans a,b,d⟩
  ·rw [hl'] at e
   by_cases hy:y=x
   ·rw [if_pos hy] at e;cases e;subst hy
    exact⟨hx,.loc hk rv (by rw [if_pos rfl]) (vr.mono K R.bnd)⟩
   ·rw [if_neg hy] at e
    obtain⟨hy',hl⟩:=hl y u e
    refine ⟨hy',?_⟩
    rcases hl with ⟨a,ru,b,c⟩ | ⟨a,c,oc,ru,b,d,f,g⟩
    ·refine .loc a ru ?_ (c.mono K R.bnd)
     rw [if_neg (fun z=>hy (nmS_inj hy' hx z))];exact b
    ·exact .cel a c oc ru b ((hs.2 c (ne d f)).trans d) f (g.mono K R.bnd)
 ·obtain⟨c,hcl,hco⟩:=hc.has _ hk
  obtain⟨oc,v₀,g1,g2,_⟩:=hc.at_ _ _ hcl
  refine wpAny_storeName_cell es.kind hk hcl ⟨oc,g1,g2⟩ fun h' hcell hs=>?_
  have K:Kp X γ s.heap γ h':=.butX hco (x2 _ hk hcl) hs
  have nl:env.locals≠c:=by
   intro z
   obtain⟨od,_,_,g,d,_⟩:=hn
   rw [z,g1] at g;cases g;rw [g2] at d;cases d
  obtain⟨oc',g1',g2'⟩:=hcell
  refine ⟨R.butX hco hs (Nat.le_refl _),K,⟨m,hn.sameBut hs nl,ho,⟨fun y c' e=>?_,hc.has,hc.inj⟩,fun y u e=>?_⟩,rfl,rfl,rfl⟩
  ·by_cases hcc:c'=c
   ·subst hcc;exact⟨oc',_,g1',g2',.inl hco⟩
   ·obtain⟨oc,v,a,b,d⟩:=hc.at_ y c' e
    exact⟨oc,v,(hs.2 c' hcc).trans a,b,d⟩
  ·rw [hl'] at e
   by_cases hy:y=x
   ·rw [if_pos hy] at e;cases e;subst hy
    exact⟨hx,.cel (.inl hk) c oc' rv hcl g1' g2' (vr.mono K R.bnd)⟩
   ·rw [if_neg hy] at e
    obtain⟨hy',hl⟩:=hl y u e
    refine ⟨hy',?_⟩
    rcases hl with ⟨a,ru,b,c1⟩ | ⟨a,c1,oc1,ru,b,d,f,g⟩
    ·exact .loc a ru b (c1.mono K R.bnd)
    ·have:c1≠c:=fun z=>by subst z;exact hy (nmS_inj hy' hx (hc.inj _ _ _ b hcl))
     exact .cel a c1 oc1 ru b ((hs.2 c1 this).trans d) f (g.mono K R.bnd)
theorem store_ok{x:Nat}{v:V}{rv:Value}{kk:FL→Bool}{E:Value→Shared→Prop}(es:EnvS env)(R:Rel Z w γ H n s)(en:EnvR Z γ s.heap env l)(hx:x < names.length)(hk:env.kindOf (nmS x)=some .local∨env.kindOf (nmS x)=some .cell)
  (vr:VR Z γ s.heap v rv) (q:l.setK x v kk=true) (x1:X env.locals) (x2:∀ c,env.kindOf (nmS x)=some .cell→env.cells.lookup (nmS x)=some c→X c):wpAny (model prog w) A (storeName env (nmS x) rv) (fun _ s'=>∃ l',kk l'=true∧Stored Z w env X γ H n s l' s') E s:=by
 obtain⟨l',q,hl'⟩:=FL.setK_spec q
 exact wpAny_mono (store_look es R en hx hk vr hl' x1 x2) (fun _ _ z=>⟨l',q,z⟩) fun _ _ z=>z
noncomputable def stores(sc:List (PS × NameKind))(x:Nat):Bool:=decide (x < names.length) && (sc.lookup (nmS x) == some .local || sc.lookup (nmS x) == some .cell)
theorem stores_of{x:Nat}(e:stores sc x=true)(ec:EnvSc env sc):x < names.length∧(env.kindOf (nmS x)=some .local∨env.kindOf (nmS x)=some .cell):=by
 simp only [stores,Bool.and_eq_true,decide_eq_true_eq,Bool.or_eq_true,beq_iff_eq] at e
 exact⟨e.1,e.2.imp (fun z=>ec _ _ z (by intro y;cases y)) (fun z=>ec _ _ z (by intro y;cases y))⟩
theorem xs1(env:Env):Xs env env.locals:=.inl rfl
theorem xs2(env:Env)(x:PS):∀ c,env.kindOf x=some .cell→env.cells.lookup x=some c→Xs env c:=fun _ _ e=>.inr ⟨_,e⟩
set_option tactic.hygienic true in
theorem Stored.next{l':FL}(x:Stored Z w env (Xs env) γ H n s l' s')(q:ks.nx l' H n=true):PostF Z w env γ s ks .next s':=⟨l',H,n,γ,q,x.1,x.2,x.3,x.4⟩
set_option tactic.hygienic true in
theorem sS_asg{m:EM}{e:PX}{i:Nat}{x:PS}{xp p:Pos}(y:SndE Z w sc m e)(ei:nmS i=x)(hs:stores sc i=true)(hw:∀ env,swapsWith e (some (.Name x xp)) p.line env=pure false):SndS1 Z w sc (sAsg i m) (.Assign [.Name x xp] e p):=fun N hd A env l H n ks γ s P q=>by
 subst ei
 obtain⟨hx,hk⟩:=stores_of hs P.ec
 refine wpAny_Assign_Name (wpAny_mono (y.at P q) (fun rv s' z=>?_) fun e s' z=>z.toE P) (hw env)
 obtain⟨v,H',n',γ',a,R,K,vr,F⟩:=z
 have P':=P.go K R
 refine wpAny_mono (store_ok P.es R P'.e hx hk vr a (xs1 env) (xs2 env _)) (fun _ s'' z=>?_) fun _ _ z=>z
 obtain⟨l',q',st⟩:=z
 exact PostF.up K.nx F (st.next q')
end
end Mine
end
section
open PySem renaming Expr→PX,Str→PS
open PySem PySem.W PySem.Calls PyProof.Rows PySem.SeqAt Builtin Builtin.ObjectAttr
namespace Mine
section
variable{Z:SA}{w:World}{hd:Bool}{X:Addr→Prop}{γ γ' γ₁:Gh}{h h':Heap}{s s' s₁:Shared}{H H':HT}{n n' N:Nat}{A:Around}{env:Env}{l l':FL}{k kx:KV}{ks ks':KS}{sc:List (PS × NameKind)}
theorem nsStore{K:Frag}{x C d:Addr}{name:PS}{v:Value}{m:PS→Option Value}{ns:List PS}{E:Value→Shared→Prop}{Q:Unit→Shared→Prop}(st:K.In s.heap)(g:s.heap.get? x=some ⟨.ref C,some d,.plain,#[]⟩)(hn:s.heap.Ns1 d m)
  (f1:findIn K (.ref C) "__setattr__" = some (some (.builtin "object.__setattr__"))) (f2:plainOver K C=true) (f3:hasDictIn K C=true) (f4:findIn K (.ref C) name=some none) (hw:∀ y,m y≠none→y∈ns) (hx:name∈ns) (hz:ns.length≤100)
  (q:∀ h',h'.Ns1 d (fun y=>if y=name then some v else m y)→Heap.SameBut d s.heap h'→Q () { s with heap:=h',toks:=s.toks + 2 }):wpAny (model prog w) A (setAttr (.ref x) name v) Q E s:=by
 obtain⟨hp,gg,dd,tk,os⟩:=s
 obtain⟨od,eso,epo,ho,rest⟩:=hn
 have I:InstAt hp x ⟨.ref C,some d,.plain,#[]⟩ C (some od):=⟨g,rfl,rfl,ho⟩
 have hn:hp.Ns1 d m:=⟨od,eso,epo,ho,rest⟩
 refine set_plain st I f1 ?_
 refine osa_open st I f2 (r:=none) (by unfold takerIn;rw [f4];rfl) fun b=>?_
 obtain⟨cd,hc,hd'⟩:=any_some f3
 have L1:=looks_clsIn (M:=model prog w) (h:=hp) st hc
 refine wpAny_bind (wpAny_pure (wpAny_bind (wpAny_bind (wpAny_loadPart g (wpAny_bind (L1.at ?_))))))
 rw [hd']
 refine wpAny_pure (a:=some d) (wpAny_bind (wpAny_pure (wpAny_bind (wpAny_nsSet1 hn fun h' hn' hs=>?_))))
 obtain⟨oD,esD,epD,hoD,hdD,hcD⟩:=hn'.count (ns:=ns) (fun y hy=>by
  by_cases e:y=name
  ·rw [e];exact hx
  ·exact hw y (by rw [if_neg e] at hy;exact hy))
 refine wpAny_bind (wpAny_lookBehind hoD (by rw [hdD];exact pastItsLine_dict (Nat.le_trans hcD (by rw [sizeLine_eq];omega))) ?_)
 exact wpAny_pure (q h' hn' hs)
theorem setAttr_ok(O:KA Z w)(R:Rel Z w γ H n s){i c x:Nat}{cd:CD}{fs:FL}{a:Addr}{v:V}{rv:Value}{kk:HT→Bool}{E:Value→Shared→Prop}(e:H.get i=.inst c fs)(o:γ.own a=.obj i 0)(hcd:clT.get c=some cd)(hm:memN cd.flds x=true)(vr:VR Z γ s.heap v rv)
  (q:fs.setK x v (fun fs'=>setO i (.inst c fs') H kk)=true):wpAny (model prog w) A (setAttr (.ref a) (nmS x) rv) (fun _ s'=>∃ H',kk H'=true∧Rel Z w γ H' n s'∧Kp NX γ s.heap γ s'.heap∧Fro s s') E s:=by
 have ob:=R.obj i
 rw [e] at ob
 obtain⟨b,d,m,cd',hcd',hk,hfl,o1,g,nsd,fr⟩:=ob
 rw [hcd] at hcd';cases hcd'
 obtain rfl:=o1.at0 o
 have F:=O.facts hcd hk
 obtain⟨fs',q,hfs⟩:=FL.setK_spec q
 obtain⟨H',q,hH⟩:=setO_spec q
 refine nsStore (ns:=cd.flds.map nmS) R.st g nsd F.set F.over F.dict (F.fld x hm).1 (fun y hy=>?_) (List.mem_map.mpr ⟨x,memN_mem hm,rfl⟩) (by rw [List.length_map];exact F.len) fun h' hn' hs=>?_
 ·cases hmy:m y with
  | none=>exact absurd hmy hy
  | some r =>
   obtain⟨z,u,h1,h2⟩:=fr.2 _ _ hmy
   exact List.mem_map.mpr ⟨z,memN_mem (hfl z u h1),h2⟩
 ·have K:Kp NX γ s.heap γ h':=.but o1.f2 hs
  refine ⟨H',q,R.but (o:=.inst c fs') o1.f2 hs (by rw [e];exact fun z=>nomatch z) (by rw [e];exact fun z=>nomatch z) hH (Nat.le_add_right _ 2) ?_,K,rfl,rfl,rfl⟩
  have ne:a≠d:=by
   intro z;rw [z,o1.f2] at o;cases o
  refine ⟨a,d,_,cd,hcd,hk,fun y u hy=>?_,o1,(hs.2 a ne).trans g,hn',fun y u hy=>?_,fun y r hy=>?_⟩
  ·rw [hfs] at hy
   by_cases hyx:y=x
   ·rw [hyx];exact hm
   ·rw [if_neg hyx] at hy;exact hfl y u hy
  ·rw [hfs] at hy
   by_cases hyx:y=x
   ·rw [if_pos hyx] at hy;cases hy;subst hyx
    exact⟨rv,if_pos rfl,vr.mono K R.bnd⟩
   ·rw [if_neg hyx] at hy
    obtain⟨ru,h1,h2⟩:=fr.1 y u hy
    refine ⟨ru,?_,h2.mono K R.bnd⟩
    exact (if_neg (fun z=>hyx (nmS_inj (F.fld y (hfl y u hy)).2 (F.fld x hm).2 z))).trans h1
  ·have hy:(if y=nmS x then some rv else m y)=some r:=hy
   by_cases hyx:y=nmS x
   ·rw [if_pos hyx] at hy;exact⟨x,v,by rw [hfs,if_pos rfl],hyx.symm⟩
   ·rw [if_neg hyx] at hy
    obtain⟨z,u,h1,h2⟩:=fr.2 _ _ hy
    refine ⟨z,u,?_,h2⟩
    rw [hfs,if_neg (fun q=>hyx (by rw [← h2,q]))];exact h1
theorem sS_asgA(O:KA Z w){mo me:EM}{eo e:PX}{x:Nat}{name:PS}{ap p:Pos}(yo:SndE Z w sc mo eo)(ye:SndE Z w sc me e)(ex:nmS x=name)(hw:∀ env,swapsWith e (some (.Attribute eo name ap)) p.line env=pure false) :
  SndS1 Z w sc (Yz mo x me) (.Assign [.Attribute eo name ap] e p):=fun N hd A env l H n ks γ s P q=>by
 subst ex
 refine plainObj_wpAny_Assign_Attribute (wpAny_mono (ye.at P q) (fun rv s' z=>?_) fun e s' z=>z.toE P) (hw env)
 obtain⟨v,H',n',γ',a,R,K,vr,F⟩:=z
 have P':=P.go K R
 refine wpAny_mono (yo.at P' a) (fun ro s'' z=>?_) fun e s' z=>(z.toE P').up K.nx F
 obtain⟨vo,H2,n2,γ2,a2,R2,K2,vro,F2⟩:=z
 cases vo with
 | ref i =>
  obtain⟨ad,rfl,o⟩:=vro
  have a2:(match H2.get i with | .inst c fs=>optK (clT.get c) fun cd=>@Bool.rec (fun _=>Bool) false (fs.setK x v fun fs'=>setO i (.inst c fs') H2 fun h'=>ks.nx l h' n2) (memN cd.flds x) | _=>false)=true:=a2
  cases e0:H2.get i with
  | inst c fs =>
   rw [e0] at a2
   obtain⟨cd,hcd,a2⟩:=optK_some (o:=clT.get c) a2
   obtain⟨hm,a2⟩:=brecT a2
   refine wpAny_mono (setAttr_ok O R2 e0 o hcd hm (vr.mono K2 R.bnd) a2) (fun _ s3 z=>?_) fun _ _ z=>z
   obtain⟨H3,q3,R3,K3,F3⟩:=z
   have P2:=P'.go K2 R2
   exact PostF.up K.nx F (PostF.up K2.nx F2 ⟨l,H3,n2,γ2,q3,R3,K3.nx,P2.e.mono K3 R2.bnd,F3⟩)
  | _=>rw [e0] at a2;exact ff a2
 | _=>exact ff a2
end
end Mine
end
section
open PySem renaming Expr→PX,Str→PS
open PySem PySem.W PySem.Calls PyProof.Rows PySem.SeqAt
namespace Mine
theorem FL.eraseK_spec{x:Nat}:∀ {l:FL} {k:FL→Bool},l.eraseK x k=true→∃ l',k l'=true∧∀ y,l'.look y=if y=x then none else l.look y:=by
 intro l
 induction l with
 | nil =>
  intro k e
  refine ⟨.nil,e,fun y=>?_⟩
  have:FL.nil.look y=none:=rfl
  rw [this];split <;> rfl
 | cons a w r ih =>
  intro k e
  have e:@Bool.rec (fun _=>Bool) (r.eraseK x fun r'=>k (.cons a w r')) (r.eraseK x k) (Nat.beq a x)=true:=e
  rw [beqE a x] at e
  by_cases h:a=x
  ·rw [decide_eq_true h] at e
   obtain⟨l',e1,e2⟩:=ih e
   refine ⟨_,e1,fun y=>?_⟩
   rw [e2,FL.look_cons]
   by_cases q:y=x
   ·rw [if_pos q,if_pos q]
   ·rw [if_neg q,if_neg q,if_neg (by rw [h];exact Ne.symm q)]
  ·rw [decide_eq_false h] at e
   obtain⟨l',e1,e2⟩:=ih e
   refine ⟨_,e1,fun y=>?_⟩
   rw [FL.look_cons,FL.look_cons,e2]
   by_cases q:a=y
   ·rw [if_pos q,if_pos q,if_neg (by rw [← q];exact h)]
   ·rw [if_neg q,if_neg q]
section
variable{K:Type}[DecidableEq K]
theorem valueAt_cons(p:K × Value)(r:List (K × Value))(x:K):valueAt (p :: r) x=if p.1=x then some p.2 else valueAt r x:=by
 unfold valueAt
 rw [List.find?_cons]
 by_cases h:p.1=x
 ·simp [h]
 ·simp [h]
theorem valueAt_none{kvs:List (K × Value)}{x:K}(h:∀ p∈kvs,p.1≠x):valueAt kvs x=none:=by
 unfold valueAt
 rw [Option.map_eq_none_iff,List.find?_eq_none]
 intro p hp
 simpa using h p hp
theorem valueAt_append{a b:List (K × Value)}{x:K}:valueAt (a ++ b) x=(valueAt a x).or (valueAt b x):=by
 unfold valueAt
 rw [List.find?_append]
 cases a.find? (fun kv=>decide (kv.1=x)) <;> rfl
theorem valueAt_stored(kvs:List (K × Value))(k:K)(v:Value)(x:K):valueAt (stored kvs k v) x=if x=k then some v else valueAt kvs x:=by
 unfold stored
 by_cases h:kvs.any (fun kv=>kv.1=k)=true
 ·rw [if_pos h]
  have key:∀ l:List (K × Value),valueAt (l.map (fun kv=>if kv.1=k then (kv.1,v) else kv)) x=if x=k then (if l.any (fun kv=>kv.1=k) then some v else none) else valueAt l x:=by
   intro l
   induction l with
   | nil=>split <;> rfl
   | cons p r ih =>
    rw [List.map_cons,valueAt_cons,ih,valueAt_cons,List.any_cons]
    by_cases h1:p.1=k
    ·have e1:(if p.1=k then (p.1,v) else p)=(p.1,v):=if_pos h1
     rw [e1]
     by_cases h2:x=k
     ·subst h2;simp [h1]
     ·have:¬ p.1=x:=fun z=>h2 (z.symm.trans h1)
      simp [h2,this]
    ·have e1:(if p.1=k then (p.1,v) else p)=p:=if_neg h1
     rw [e1]
     by_cases h2:x=k
     ·subst h2
      simp only [if_neg h1,if_true]
      congr 2
      rw [decide_eq_false h1];rfl
     ·simp [h2]
  rw [key]
  simp only [h,if_true]
 ·rw [if_neg h,valueAt_append]
  have hn:∀ p∈kvs,p.1≠k:=by
   intro p hp e
   exact h (List.any_eq_true.mpr ⟨p,hp,by simpa using e⟩)
  by_cases h2:x=k
  ·subst h2
   rw [valueAt_none hn,if_pos rfl]
   simp [valueAt]
  ·rw [if_neg h2]
   have:valueAt [(k,v)] x=none:=valueAt_none (by intro p hp;rw [List.mem_singleton] at hp;subst hp;exact Ne.symm h2)
   rw [this];cases valueAt kvs x <;> rfl
theorem stored_keys(kvs:List (K × Value))(k:K)(v:Value):(stored kvs k v).map (·.1)=if kvs.any (fun kv=>kv.1=k) then kvs.map (·.1) else kvs.map (·.1) ++ [k]:=by
 unfold stored
 by_cases h:kvs.any (fun kv=>kv.1=k)=true
 ·rw [if_pos h,if_pos h,List.map_map]
  refine List.map_congr_left fun p hp=>?_
  show (if p.1=k then (p.1,v) else p).1=p.1
  split <;> rfl
 ·rw [if_neg h,if_neg h,List.map_append];rfl
theorem stored_nodup{kvs:List (K × Value)}(hn:(kvs.map (·.1)).Nodup)(k:K)(v:Value):((stored kvs k v).map (·.1)).Nodup:=by
 rw [stored_keys]
 by_cases h:kvs.any (fun kv=>kv.1=k)=true
 ·rw [if_pos h];exact hn
 ·rw [if_neg h,List.nodup_append]
  refine ⟨hn,by simp,fun a ha b hb e=>?_⟩
  rw [List.mem_singleton] at hb
  subst hb e
  obtain⟨p,hp,rfl⟩:=List.mem_map.mp ha
  exact h (List.any_eq_true.mpr ⟨p,hp,by simp⟩)
set_option tactic.hygienic true in
theorem stored_mem{kvs:List (K × Value)}{k:K}{v:Value}{p:K × Value}(h:p∈stored kvs k v):p.1=k∨p∈kvs:=by
 unfold stored at h
 split at h
 ·obtain⟨q,hq,rfl⟩:=List.mem_map.mp h
  split
  ·rename_i e;exact .inl e
  ·exact .inr hq
 ·rcases List.mem_append.mp h with h | h
  ·exact .inr h
  ·rw [List.mem_singleton] at h;subst h;exact .inl rfl
end
set_option tactic.hygienic true in
theorem nodup_lt:∀ (n:Nat) (l:List Nat),l.Nodup→(∀ x∈l,x < n)→l.length≤n:=by
 intro n
 induction n with
 | zero =>
  intro l _ h
  cases l with
  | nil=>exact Nat.le_refl _
  | cons a r=>exact absurd (h a (.head _)) (Nat.not_lt_zero _)
 | succ n ih =>
  intro l hn h
  by_cases hm:n∈l
  ·have h1:=ih (l.erase n) (hn.erase n) fun x hx=>by
    obtain⟨a,b⟩:=(hn.mem_erase_iff).mp hx
    exact Nat.lt_of_le_of_ne (Nat.le_of_lt_succ (h x b)) a
   rw [List.length_erase_of_mem hm] at h1
   exact Nat.le_add_of_sub_le h1
  ·exact Nat.le_succ_of_le (ih l hn fun x hx=>Nat.lt_of_le_of_ne (Nat.le_of_lt_succ (h x hx)) fun z=>hm (z ▸ hx))
section
variable{Z:SA}{w:World}{hd:Bool}{X:Addr→Prop}{γ γ' γ₁:Gh}{h h':Heap}{s s' s₁:Shared}{H H':HT}{n n' N:Nat}{A:Around}{env:Env}{l l':FL}{k kx:KV}{ks ks':KS}{sc:List (PS × NameKind)}
theorem DR.len(S:SymR Z γ h){kd:Nat}{fs:FL}{kvs:List (Int × Value)}(x:DR Z γ h kd fs kvs):kvs.length≤names.length:=by
 obtain⟨r1,r2,_⟩:=x
 have:∀ l:List (Int × Value),(∀ p∈l,∃ s a,γ.sg s=some a∧p.1=γ.nu s)→(l.map (·.1)).Nodup→∃ ss:List Nat,ss.length=l.length∧ss.Nodup∧(∀ s∈ss,s < names.length)∧∀ s∈ss,∃ p∈l,∃ a,γ.sg s=some a∧p.1=γ.nu s:=by
  intro l
  induction l with
  | nil=>exact fun _ _=>⟨[],rfl,.nil,fun _ h=>(nomatch h),fun _ h=>nomatch h⟩
  | cons p r ih =>
   intro h1 h2
   rw [List.map_cons,List.nodup_cons] at h2
   obtain⟨ss,a1,a2,a3,a4⟩:=ih (fun p hp=>h1 p (.tail _ hp)) h2.2
   obtain⟨s,a,b1,b2⟩:=h1 p (.head _)
   refine ⟨s :: ss,by rw [List.length_cons,a1,List.length_cons],List.nodup_cons.mpr ⟨fun hs=>?_,a2⟩,fun y hy=>?_,fun y hy=>?_⟩
   ·obtain⟨q,hq,a',c1,c2⟩:=a4 s hs
    exact h2.1 (List.mem_map.mpr ⟨q,hq,c2.trans b2.symm⟩)
   ·rcases List.mem_cons.mp hy with rfl | hy
    ·exact (S.at_ _ _ b1).1
    ·exact a3 y hy
   ·rcases List.mem_cons.mp hy with rfl | hy
    ·exact⟨p,.head _,a,b1,b2⟩
    ·obtain⟨q,hq,c⟩:=a4 y hy;exact⟨q,.tail _ hq,c⟩
 obtain⟨ss,a1,a2,a3,_⟩:=this kvs r1 r2
 rw [← a1];exact nodup_lt _ _ a2 a3
theorem names_len:names.length≤400:=by decide +kernel
theorem DR.store(S:SymR Z γ h){kd sy:Nat}{sa:Addr}{fs:FL}{kvs:List (Int × Value)}{v:V}{rv:Value}{kk:FL→Bool}(x:DR Z γ h kd fs kvs)(q1:γ.sg sy=some sa)(vr:VR Z γ h v rv)(q:putK kd fs sy v kk=true) :
  ∃ fs',kk fs'=true∧DR Z γ h kd fs' (stored kvs (γ.nu sy:Int) rv):=by
 obtain⟨r1,r2,r3,r4,r5⟩:=x
 have keys:∀ p∈stored kvs (γ.nu sy:Int) rv,∃ s a,γ.sg s=some a∧p.1=γ.nu s:=by
  intro p hp
  rcases stored_mem hp with e | e
  ·exact⟨sy,sa,q1,e⟩
  ·exact r1 p e
 have nuNe:∀ {t b},γ.sg t=some b→t≠sy→(γ.nu t:Int)≠(γ.nu sy:Int):=by
  intro t b ht hne z
  exact hne (S.inj _ _ _ _ ht q1 (by omega))
 have set:∀ fs':FL,(∀ y,fs'.look y=if y=sy then some v else fs.look y)→DR Z γ h kd fs' (stored kvs (γ.nu sy:Int) rv):=by
  intro fs' hfs
  refine ⟨keys,stored_nodup r2 _ _,fun t b u ht hl=>?_,fun t b ht hl=>?_,fun t u hl=>?_⟩
  ·rw [hfs] at hl
   rw [valueAt_stored]
   by_cases hts:t=sy
   ·subst hts;rw [if_pos rfl] at hl;cases hl;exact⟨rv,if_pos rfl,vr⟩
   ·rw [if_neg hts] at hl
    obtain⟨ru,h1,h2⟩:=r3 t b u ht hl
    exact⟨ru,(if_neg (nuNe ht hts)).trans h1,h2⟩
  ·rw [hfs] at hl
   rw [valueAt_stored]
   by_cases hts:t=sy
   ·subst hts;rw [if_pos rfl] at hl;cases hl
   ·rw [if_neg hts] at hl
    rw [if_neg (nuNe ht hts)];exact r4 t b ht hl
  ·rw [hfs] at hl
   by_cases hts:t=sy
   ·subst hts;exact⟨sa,q1⟩
   ·rw [if_neg hts] at hl;exact r5 t u hl
 unfold putK at q
 split at q
 ·obtain⟨fs',q,hfs⟩:=FL.setK_spec q
  exact⟨fs',q,set fs' hfs⟩
 ·split at q
  ·cases vr
   obtain⟨fs',q,hfs⟩:=FL.eraseK_spec q
   refine ⟨fs',q,keys,stored_nodup r2 _ _,fun t b u ht hl=>?_,fun t b ht hl=>?_,fun t u hl=>?_⟩
   ·rw [hfs] at hl
    rw [valueAt_stored]
    by_cases hts:t=sy
    ·rw [if_pos hts] at hl;cases hl
    ·rw [if_neg hts] at hl
     obtain⟨ru,h1,h2⟩:=r3 t b u ht hl
     exact⟨ru,(if_neg (nuNe ht hts)).trans h1,h2⟩
   ·rw [hfs] at hl
    rw [valueAt_stored]
    by_cases hts:t=sy
    ·subst hts;exact .inr ⟨rfl,if_pos rfl⟩
    ·rw [if_neg hts] at hl
     rw [if_neg (nuNe ht hts)];exact r4 t b ht hl
   ·rw [hfs] at hl
    by_cases hts:t=sy
    ·rw [if_pos hts] at hl;cases hl
    ·rw [if_neg hts] at hl;exact r5 t u hl
  ·obtain⟨fs',q,hfs⟩:=FL.setK_spec q
   exact⟨fs',q,set fs' hfs⟩
 ·cases q
theorem sS_asgI{mo mi me:EM}{eo ei e:PX}{ip p:Pos}(yo:SndE Z w sc mo eo)(yi:SndE Z w sc mi ei)(ye:SndE Z w sc me e)(hw:∀ env,swapsWith e (some (.Subscript eo ei ip)) p.line env=pure false) :
  SndS1 Z w sc (sAsgI mo mi me) (.Assign [.Subscript eo ei ip] e p):=fun N hd A env l H n ks γ s P q=>by
 refine wpAny_Assign_Subscript (wpAny_mono (ye.at P q) (fun rv s' z=>?_) fun e s' z=>z.toE P) (hw env)
 obtain⟨v,H',n',γ',a,R,K,vr,F⟩:=z
 have P':=P.go K R
 refine wpAny_mono (yo.at P' a) (fun ro s'' z=>?_) fun e s' z=>(z.toE P').up K.nx F
 obtain⟨vo,H2,n2,γ2,a2,R2,K2,vro,F2⟩:=z
 have P2:=P'.go K2 R2
 refine wpAny_mono (yi.at P2 a2) (fun ri s3 z=>?_) fun e s' z=>((z.toE P2).up K2.nx F2).up K.nx F
 obtain⟨vi,H3,n3,γ3,a3,R3,K3,vri,F3⟩:=z
 have P3:=P2.go K3 R3
 have vro3:=vro.mono K3 R2.bnd
 have vr3:=(vr.mono K2 R.bnd).mono K3 R2.bnd
 have fin:∀ {f:Flow} {sx:Shared},PostF Z w env γ3 s3 ks f sx→PostF Z w env γ s ks f sx:=fun z=>((z.up K3.nx F3).up K2.nx F2).up K.nx F
 obtain⟨i,rfl,a3⟩:=asRef_ok a3
 obtain⟨ad,rfl,o⟩:=vro3
 obtain⟨kd,fs,e0,a3⟩:=dicAt_ok a3
 obtain⟨sy,_,t,q1,rfl,_,a3⟩:=asSn_ok a3 vri
 obtain⟨kvs,o1,D,dr⟩:=R3.dic e0 o
 obtain⟨fs',a3,dr'⟩:=dr.store R3.sym q1 vr3 a3
 obtain⟨H4,a4,hH⟩:=setO_spec a3
 refine wpAny_setItem_pairs (knd:=intKind prog w) (intKind_is prog w _ t) D (fun h' hD hs=>?_) (Nat.le_trans (dr.len R3.sym) (Nat.le_trans names_len (by rw [sizeLine_eq];decide)))
 have K4:Kp NX γ3 s3.heap γ3 h':=.but o hs
 exact fin ⟨l,H4,n3,γ3,a4,R3.but o hs (by rw [e0];exact fun z=>nomatch z) (by rw [e0];exact fun z=>nomatch z) hH (Nat.le_succ _) ⟨ad,_,o1,hD,dr'.mono K4 R3.bnd ⟨rfl,rfl⟩⟩,K4.nx,P3.e.mono K4 R3.bnd,rfl,rfl,rfl⟩
end
section
variable{Z:SA}{w:World}{hd:Bool}{X:Addr→Prop}{γ γ' γ₁:Gh}{h h':Heap}{s s' s₁:Shared}{H H':HT}{n n' N:Nat}{A:Around}{env:Env}{l l':FL}{k kx:KV}{ks ks':KS}{sc:List (PS × NameKind)}
theorem EnvR.congr(x:EnvR Z γ h env l)(e:∀ y,l'.look y=l.look y):EnvR Z γ h env l':=by
 obtain⟨m,a,b,c,d⟩:=x
 exact⟨m,a,b,c,fun y v q=>d y v (by rw [← e];exact q)⟩
theorem unpackItems_ok{E:Value→Shared→Prop}(hfr:γ.own s.heap.objs.size≠.exn)(hh:HdOk A hd γ s.heap){t:Addr}{items:Array Value}{Q:List Value→Shared→Prop}(ht:IsTup s.heap t items)
  (hQ:∀ h',(∀ b o,s.heap.get? b=some o→h'.get? b=some o)→s.heap.objs.size≤h'.objs.size→Q items.toList { s with heap:=h' }):wpAny (model prog w) A (unpackItems (.ref t) items.size none) Q E s:=by
 have hlt:t≠s.heap.objs.size:=by obtain⟨o,ho,_⟩:=ht;exact Nat.ne_of_lt (Heap.lt_size ho)
 unfold unpackItems
 refine wpAny_bind ?_
 unfold notIterableAtAll
 refine wpAny_bind (wpAny_specialOf ht.typeIs slot_tuple_iter.lookup ?_)
 refine wpAny_pure ?_
 simp only [Bool.false_eq_true,if_false]
 refine wpAny_bind (wpAny_holding (iter_tuple ht ?_))
 refine wpAny_bind (wpAny_holding (draw_tuple hlt items.size 0 _ _ ⟨_,Heap.get?_push_size _ rfl,rfl,rfl⟩ (ht.push _) (by omega) fun h₁ hit₁ hs₁=>?_))
 have hall:List.take items.size (List.drop 0 items.toList)=items.toList:=by
  rw [List.drop_zero];exact List.take_of_length_le (by simp)
 rw [hall]
 rw [if_neg (by simp)]
 have ht₁:IsTup h₁ t items:=(ht.push _).extBut hs₁.extBut hlt
 have K₁:∀ b o,s.heap.get? b=some o→h₁.get? b=some o:=fun b o e=>(hs₁.2 b (Nat.ne_of_lt (Heap.lt_size e))).trans (Heap.get?_push_of_some _ e)
 have Z₁:s.heap.objs.size≤h₁.objs.size:=by rw [hs₁.1,Heap.size_push];exact Nat.le_succ _
 have hh₁:HdOk A hd γ h₁:=hh.mono (Kp.more (X:=NX) K₁ Z₁)
 refine wpAny_bind (wpAny_holding (tuple_end (s:={ s with heap:=h₁ }) hh₁ hfr hit₁ ht₁ (by simp) fun h₂ he₂=>?_))
 simp only [Option.isSome_none,Bool.false_eq_true,if_false]
 exact wpAny_pure (hQ h₂ (fun b o e=>he₂.keep b o (Nat.ne_of_lt (Heap.lt_size e)) (K₁ b o e)) (Nat.le_trans Z₁ he₂.size))
inductive NmsE(sc:List (PS × NameKind)):List Nat→List PX→Prop
 | nil:NmsE sc [] []
 | cons {x:Nat} {y:PS} {p:Pos} {xs:List Nat} {es:List PX}:nmS x=y→stores sc x=true→NmsE sc xs es→NmsE sc (x :: xs) (.Name y p :: es)
theorem NmsE.each{xs:List Nat}{es:List PX}(x:NmsE sc xs es)(env:Env):(assignEach es env).length=xs.length∧(assignEach es env).findIdx? (·.1)=none:=by
 induction x with
 | nil=>exact⟨rfl,rfl⟩
 | @cons x y p xs es _ _ _ ih =>
  have e:assignEach (.Name y p :: es) env=(false,assign (.Name y p) env) :: assignEach es env:=rfl
  rw [e,List.length_cons,ih.1,List.findIdx?_cons,ih.2]
  exact⟨rfl,rfl⟩
theorem bindNames_cons{x:Nat}{xs:List Nat}{v:V}{vs:VL}{kk:FL→Bool}:bindNames (x :: xs) (v :: vs) l kk=l.setK x v fun l'=>bindNames xs vs l' kk:=rfl
theorem stores_X{x:Nat}(e:stores sc x=true)(ec:EnvSc env sc)(x2:∀ y c,sc.lookup y=some .cell→env.cells.lookup y=some c→X c):∀ c,env.kindOf (nmS x)=some .cell→env.cells.lookup (nmS x)=some c→X c:=fun c hk hc=>by
 simp only [stores,Bool.and_eq_true,decide_eq_true_eq,Bool.or_eq_true,beq_iff_eq] at e
 rcases e.2 with z | z
 ·rw [ec _ _ z (by intro y;cases y)] at hk;cases hk
 ·exact x2 _ c z hc
theorem inOrder_ok{E:Value→Shared→Prop}(x1:X env.locals)(x2:∀ y c,sc.lookup y=some .cell→env.cells.lookup y=some c→X c)(es:EnvS env)(ec:EnvSc env sc){xs:List Nat}{ex:List PX}(T:NmsE sc xs ex):∀ {vs:VL} {ws:List Value} {l:FL} {γ:Gh} {s:Shared} {kk:FL→Bool},Rel Z w γ H n s→EnvR Z γ s.heap env l→VRs Z γ s.heap vs ws→bindNames xs vs l kk=true →
  wpAny (model prog w) A (assignInOrder ((assignEach ex env).map (·.2)) ws) (fun _ s'=>∃ l',kk l'=true∧Stored Z w env X γ H n s l' s') E s:=by
 induction T with
 | nil =>
  intro vs ws l γ s kk R en vr q
  cases vs with
  | nil=>obtain rfl:=vr.nilI;exact assignInOrder_nil ⟨l,q,R,.refl ..,en,.refl _⟩
  | cons _ _=>exact ff q
 | @cons x y p xs ex e1 e2 T ih =>
  intro vs ws l γ s kk R en vr q
  have e:assignEach (.Name y p :: ex) env=(false,assign (.Name y p) env) :: assignEach ex env:=rfl
  rw [e,List.map_cons]
  cases vs with
  | nil=>exact ff q
  | cons v vs =>
   obtain⟨_,_,rfl,v1,v2⟩:=vr.consI
   rw [bindNames_cons] at q
   obtain⟨hx,hk⟩:=stores_of e2 ec
   subst e1
   refine assignInOrder_cons (assign_Name (wpAny_mono (store_ok es R en hx hk v1 q x1 (stores_X e2 ec x2)) (fun _ s' z=>?_) fun _ _ z=>z))
   obtain⟨l1,q1,R1,K1,en1,F1⟩:=z
   refine wpAny_mono (ih R1 en1 (v2.mono K1 R.bnd) q1) (fun _ s'' z=>?_) fun _ _ z=>z
   obtain⟨l2,q2,R2,K2,en2,F2⟩:=z
   exact⟨l2,q2,R2,K1.trans K2,en2,F1.trans F2⟩
inductive TgtE(sc:List (PS × NameKind)):TGT→PX→Prop
 | one {x:Nat} {y:PS} {p:Pos}:nmS x=y→stores sc x=true→TgtE sc (.one x) (.Name y p)
 | many {xs:List Nat} {es:List PX} {i:Nat} {p:Pos}:NmsE sc xs es→TgtE sc (.many xs) (.Tuple es i p)
theorem bindNames_len{xs:List Nat}{vs:VL}{l:FL}{kk:FL→Bool}(q:bindNames xs vs l kk=true):vs.length=xs.length:=by
 induction xs generalizing vs l with
 | nil=>cases vs with | nil=>rfl | cons _ _=>cases q
 | cons x xs ih =>
  cases vs with
  | nil=>cases q
  | cons v vs =>
   rw [bindNames_cons] at q
   obtain⟨l',q,_⟩:=FL.setK_spec q
   rw [List.length_cons,ih q];rfl
theorem assign_okX{E:Value→Shared→Prop}{t:TGT}{e:PX}{v:V}{rv:Value}{kk:FL→Bool}(x1:X env.locals)(x2:∀ y c,sc.lookup y=some .cell→env.cells.lookup y=some c→X c)(T:TgtE sc t e)(es:EnvS env)(ec:EnvSc env sc)(hh:HdOk A hd γ s.heap)(R:Rel Z w γ H n s)(en:EnvR Z γ s.heap env l)(vr:VR Z γ s.heap v rv)(q:bindT t v l kk=true) :
  wpAny (model prog w) A (assign e env rv) (fun _ s'=>∃ l',kk l'=true∧Stored Z w env X γ H n s l' s') E s:=by
 cases T with
 | one e1 e2 =>
  subst e1
  obtain⟨hx,hk⟩:=stores_of e2 ec
  exact assign_Name (store_ok es R en hx hk vr q x1 (stores_X e2 ec x2))
 | @many xs ex i p T =>
  obtain⟨vs,rfl,q⟩:=asTup_ok q
  ·obtain⟨ws,ta,m,rfl,g,f,v1⟩:=vr.tupI
   have ht:IsTup s.heap ta ws.toArray:=⟨_,g,rfl,_,rfl⟩
   obtain⟨t1,t2⟩:=T.each env
   have hl:=bindNames_len q
   rw [PyProof.Rows.assign_Tuple]
   unfold unpack
   have hn:(assignEach ex env).length=ws.toArray.size:=by rw [t1,← hl,v1.len];simp
   rw [hn,t2]
   refine wpAny_bind (wpAny_standAt (wpAny_bind (wpAny_holding (unpackItems_ok (by rw [R.freshFree (Nat.le_refl _)];exact Ow.noConfusion) hh ht fun h' hk hz=>?_))))
   have K:Kp NX γ s.heap γ h':=.more hk hz
   have R1:Rel Z w γ H n { s with heap:=h' }:=R.more hk hz (Nat.le_refl _)
   refine wpAny_mono (inOrder_ok (n:=n) x1 x2 es ec T R1 (en.mono K R.bnd) (v1.mono K R.bnd) q) (fun _ s'' z=>?_) fun _ _ z=>z
   obtain⟨l2,q2,R2,K2,en2,F2⟩:=z
   exact⟨l2,q2,R2,K.nx.trans K2,en2,F2.hp⟩
theorem assign_ok{E:Value→Shared→Prop}{t:TGT}{e:PX}{v:V}{rv:Value}{kk:FL→Bool}(T:TgtE sc t e)(es:EnvS env)(ec:EnvSc env sc)(hh:HdOk A hd γ s.heap)(R:Rel Z w γ H n s)(en:EnvR Z γ s.heap env l)(vr:VR Z γ s.heap v rv)(q:bindT t v l kk=true) :
  wpAny (model prog w) A (assign e env rv) (fun _ s'=>∃ l',kk l'=true∧Stored Z w env (Xs env) γ H n s l' s') E s:=assign_okX (xs1 env) (fun y c _ e=>.inr ⟨y,e⟩) T es ec hh R en vr q
set_option tactic.hygienic true in
theorem sS_asgT{m:EM}{e:PX}{xs:List Nat}{ex:List PX}{i:Nat}{tp p:Pos}(y:SndE Z w sc m e)(T:NmsE sc xs ex)(hs:∀ env,swapsWithSole [.Tuple ex i tp] e p.line env=pure false)(hw:∀ env,swappedStores [.Tuple ex i tp] e env=pure none) :
  SndS1 Z w sc (sAsgT xs m) (.Assign [.Tuple ex i tp] e p):=fun N hd A env l H n ks γ s P q=>by
 refine Assign_Tuple (wpAny_mono (y.at P q) (fun rv s' z=>?_) fun e s' z=>z.toE P) (hs env) (hw env)
 obtain⟨v,H',n',γ',a,R,K,vr,F⟩:=z
 have P':=P.go K R
 have a:bindT (.many xs) v l (fun l'=>ks.nx l' H' n')=true:=by
  unfold bindT;exact a
 refine wpAny_mono (assign_ok (.many T) P.es P.ec P'.hd R P'.e vr a) (fun _ s'' z=>?_) fun _ _ z=>z
 obtain⟨l',q',st⟩:=z
 exact PostF.up K.nx F (st.next q')
noncomputable def localN(sc:List (PS × NameKind))(x:Nat):Bool:=decide (x < names.length) && sc.lookup (nmS x) == some .local
theorem localN_of{x:Nat}(e:localN sc x=true)(ec:EnvSc env sc):x < names.length∧env.kindOf (nmS x)=some .local:=by
 simp only [localN,Bool.and_eq_true,decide_eq_true_eq,beq_iff_eq] at e
 exact⟨e.1,ec _ _ e.2 (by intro y;cases y)⟩
theorem two_of{α:Type}{vs:List α}{a b:Nat}(h:vs.length=[a,b].length):∃ u1 u2,vs=[u1,u2]:=by
 rcases vs with _ | ⟨u1,_ | ⟨u2,_ | ⟨u3,r⟩⟩⟩ <;> first | exact⟨_,_,rfl⟩ | (simp at h;done) | (simp at h;omega)
theorem FL.look_put(x:Nat)(v:V)(l:FL):∀ y,(FL.cons x v l).look y=if y=x then some v else l.look y:=fun y=>by
 rw [FL.look_cons]
 by_cases h:x=y
 ·rw [if_pos h,if_pos h.symm]
 ·rw [if_neg h,if_neg (Ne.symm h)]
structure Upd(ps:List (Nat × V))(l l':FL):Prop where
 f1:∀ p∈ps,l'.look p.1=some p.2
 f2:∀ y,(∀ p∈ps,p.1≠y)→l'.look y=l.look y
theorem Upd.cons{p:Nat × V}{ps:List (Nat × V)}{l l1 l':FL}(h:∀ y,l1.look y=if y=p.1 then some p.2 else l.look y)(ne:∀ q∈ps,q.1≠p.1)(U:Upd ps l1 l'):Upd (p :: ps) l l' :=
 ⟨fun q hq=>(List.mem_cons.mp hq).elim (fun e=>by rw [e,U.f2 _ ne,h,if_pos rfl]) (U.f1 q),fun y hy=>by rw [U.f2 y fun q hq=>hy q (.tail _ hq),h,if_neg fun z=>hy p (.head _) z.symm]⟩
theorem Upd.same{ps:List (Nat × V)}{l a b:FL}(U:Upd ps l a)(V:Upd ps.reverse l b)(y:Nat):a.look y=b.look y :=
 (Classical.em (∃ p∈ps,p.1=y)).elim (fun⟨p,hp,e⟩=>e ▸ (U.f1 p hp).trans (V.f1 p (List.mem_reverse.mpr hp)).symm) fun h=>(U.f2 y fun p hp z=>h ⟨p,hp,z⟩).trans (V.f2 y fun p hp z=>h ⟨p,List.mem_reverse.mp hp,z⟩).symm
theorem fst_ne{p:Nat × V}{ps:List (Nat × V)}(nd:((p :: ps).map (·.1)).Nodup):∀ q∈ps,q.1≠p.1:=fun q hq z=>(List.nodup_cons.mp nd).1 (by show p.1∈_;rw [← z];exact List.mem_map_of_mem hq)
theorem bindNames_upd:∀ (ps:List (Nat × V)) {l:FL} {kk:FL→Bool},(ps.map (·.1)).Nodup→bindNames (ps.map (·.1)) (ps.map (·.2)) l kk=true→∃ lb,kk lb=true∧Upd ps l lb
 | [],l,_,_,e=>⟨l,e,fun _ h=>(nomatch h),fun _ _=>rfl⟩
 | p :: ps,l,kk,nd,e =>
  have ⟨_,a,ha⟩:=FL.setK_spec (show l.setK p.1 p.2 (fun l'=>bindNames (ps.map (·.1)) (ps.map (·.2)) l' kk)=true from e)
  have ⟨lb,b,U⟩:=bindNames_upd ps (List.nodup_cons.mp nd).2 a
  ⟨lb,b,U.cons ha (fst_ne nd)⟩
theorem assignAll{E:Value→Shared→Prop}(es:EnvS env):∀ (ps:List (Nat × V)) {ws:List Value} {s:Shared} {l:FL},(∀ p∈ps,p.1 < names.length∧env.kindOf (nmS p.1)=some .local)→(ps.map (·.1)).Nodup→Rel Z w γ H n s→EnvR Z γ s.heap env l→VRs Z γ s.heap (ps.map (·.2)) ws →
  wpAny (model prog w) A (assignInOrder (ps.map fun p=>bindName env (nmS p.1)) ws) (fun _ s'=>∃ l',Upd ps l l'∧Stored Z w env (Xs env) γ H n s l' s') E s
 | [],_,s,l,_,_,R,en,v=>by cases v;exact assignInOrder_nil ⟨l,⟨fun _ h=>(nomatch h),fun _ _=>rfl⟩,R,.refl ..,en,.refl _⟩
 | p :: ps,ws,s,l,hl,nd,R,en,v=>by
  obtain⟨_,_,rfl,a,b⟩:=v.consI
  refine assignInOrder_cons (bindName_ (wpAny_mono (store_look es R en (hl p (.head _)).1 (.inl (hl p (.head _)).2) a (FL.look_put p.1 p.2 l) (xs1 env) (xs2 env _)) (fun _ s2 z=>?_) fun _ _ z=>z))
  obtain⟨R2,K2,en2,F2⟩:=z
  refine wpAny_mono (assignAll es ps (fun q hq=>hl q (.tail _ hq)) (List.nodup_cons.mp nd).2 R2 en2 (b.mono K2 R.bnd)) (fun _ s3 z=>?_) fun _ _ z=>z
  obtain⟨l',U,R3,K3,en3,F3⟩:=z
  exact⟨l',U.cons (FL.look_put p.1 p.2 l) (fst_ne nd),R3,K2.trans K3,en3,F2.trans F3⟩
theorem VRs.rev{vs:VL}{ws:List Value}(x:VRs Z γ h vs ws):VRs Z γ h vs.reverse ws.reverse:=by
 induction vs generalizing ws with
 | nil=>cases x;exact .nil
 | cons v r ih=>obtain⟨_,_,rfl,a,b⟩:=x.consI;rw [List.reverse_cons,List.reverse_cons];exact (ih b).app (.cons a .nil)
theorem sS_asgS{m:EM}{e:PX}{xs:List Nat}{ex:List PX}{i:Nat}{tp p:Pos}(y:SndE Z w sc m e)(hl:xs.all (localN sc)=true)(nd:xs.Nodup)(hs:∀ env,swapsWithSole [.Tuple ex i tp] e p.line env=pure false)
  (hw:∀ env,(∀ x∈xs,env.kindOf (nmS x)=some .local)→env.blockKind=.function→swappedStores [.Tuple ex i tp] e env=pure (some (xs.map nmS))) :
  SndS1 Z w sc (sAsgT xs m) (.Assign [.Tuple ex i tp] e p):=fun N hd A env l H n ks γ s P q=>by
 have lk:∀ x∈xs,x < names.length∧env.kindOf (nmS x)=some .local:=fun x hx=>localN_of (List.all_eq_true.mp hl x hx) P.ec
 refine Assign_Tuple_swapped (wpAny_mono (y.at P q) (fun rv s' z=>?_) fun e s' z=>z.toE P) (hs env) (hw env (fun x hx=>(lk x hx).2) (by unfold Env.blockKind;rw [P.es.kind];rfl))
 obtain⟨v,H',n',γ',a,R,K,vr,F⟩:=z
 have P':=P.go K R
 obtain⟨vs,rfl,a'⟩:=asTup_ok a
 obtain⟨ws,ta,m,rfl,g,f,v1⟩:=vr.tupI
 have len:=bindNames_len a'
 obtain⟨ps,rfl,rfl⟩:∃ ps:List (Nat × V),ps.map (·.1)=xs∧ps.map (·.2)=vs:=⟨xs.zip vs,List.map_fst_zip (Nat.le_of_eq len.symm),List.map_snd_zip (Nat.le_of_eq len)⟩
 obtain⟨lb,hb,ub⟩:=bindNames_upd ps nd a'
 have lw:((ps.map (·.1)).map nmS).length=ws.toArray.size:=by rw [List.length_map,List.size_toArray,← v1.len,len]
 rw [lw]
 refine unpackItems_ok (γ:=γ') (by rw [R.freshFree (Nat.le_refl _)];exact Ow.noConfusion) P'.hd ⟨_,g,rfl,_,rfl⟩ fun h' hk hz=>?_
 have K1:Kp NX γ' s'.heap γ' h':=.more hk hz
 have R1:Rel Z w γ' H' n' { s' with heap:=h' }:=R.more hk hz (Nat.le_refl _)
 rw [List.map_map,← List.map_reverse,List.map_map]
 refine wpAny_mono (assignAll P.es ps.reverse (fun p hp=>lk _ (List.mem_map_of_mem (List.mem_reverse.mp hp))) (by rw [List.map_reverse];exact List.pairwise_reverse.mpr (List.Pairwise.imp (fun h=>Ne.symm h) nd)) R1 (P'.e.mono K1 R.bnd) (by rw [List.map_reverse];exact (v1.mono K1 R.bnd).rev)) (fun _ s2 z=>?_) fun _ _ z=>z
 obtain⟨l',U,R2,K2,en2,F2⟩:=z
 exact PostF.up K.nx F ⟨lb,H',n',γ',hb,R2,K1.nx.trans K2,en2.congr (ub.same U),F2.hp⟩
end
section
variable{Z:SA}{w:World}{hd:Bool}{X:Addr→Prop}{γ γ' γ₁ γ₂:Gh}{h h':Heap}{s s' s₁ s₂:Shared}{H H':HT}{n n' N:Nat}{A:Around}{env:Env}{l l':FL}{k kx:KV}{ks ks':KS}{sc:List (PS × NameKind)}
structure SmX(X:Addr→Prop)(γ:Gh)(s:Shared)(γ':Gh)(s':Shared):Prop where
 K:Kp X γ s.heap γ' s'.heap
 sg:SameSg γ γ'
 obj:∀ b i p,γ.own b=.obj i p→s'.heap.get? b=s.heap.get? b
 own:∀ b i p,γ'.own b=.obj i p↔γ.own b=.obj i p
 bnd:∀ b,γ'.own b≠.free→b < s'.heap.objs.size
 rho:γ'.rho=γ.rho
 obi:γ'.obi=γ.obi
 fro:Fro s s'
 tok:s.toks≤s'.toks
noncomputable abbrev Sm(γ:Gh)(s:Shared)(γ':Gh)(s':Shared):Prop:=SmX NX γ s γ' s'
theorem SmX.trans(x:SmX X γ s γ₁ s₁)(y:SmX X γ₁ s₁ γ₂ s₂):SmX X γ s γ₂ s₂ :=
 ⟨x.K.trans y.K,⟨y.sg.1.trans x.sg.1,y.sg.2.trans x.sg.2⟩,fun b i p e=>(y.obj b i p ((x.own b i p).mpr e)).trans (x.obj b i p e),fun b i p=>(y.own b i p).trans (x.own b i p),y.bnd,y.rho.trans x.rho,y.obi.trans x.obi,x.fro.trans y.fro,Nat.le_trans x.tok y.tok⟩
theorem SmX.refl(R:Rel Z w γ H n s):SmX X γ s γ s:=⟨.refl ..,⟨rfl,rfl⟩,fun _ _ _ _=>rfl,fun _ _ _=>Iff.rfl,R.bnd,rfl,rfl,.refl _,Nat.le_refl _⟩
theorem Rel.sm(R:Rel Z w γ H n s)(x:SmX X γ s γ' s'):Rel Z w γ' H n s' where
 st a o e:=x.K.free a o (R.st a o e) (R.stf a o e)
 stf a o e:=(x.K.own a (Heap.lt_size (R.st a o e))).trans (R.stf a o e)
 bnd:=x.bnd
 obj i:=(R.obj i).mono x.K R.bnd x.sg (fun b p q=>x.obj b i p q) fun b p=>x.own b i p
 fresh i e:=⟨(R.fresh i e).1,by rw [x.rho];exact (R.fresh i e).2⟩
 sym:=R.sym.mono x.K x.sg
 obi i e:=R.obi i (by rw [← x.obi];exact e)
 sym0 e:=by rw [x.sg.1];exact R.sym0 (by rw [← x.obi];exact e)
 lim:=by
  obtain⟨mc,⟨o,es,ep,q,r⟩,u⟩:=R.lim
  exact⟨mc,⟨o,es,ep,x.K.free _ _ q R.limf,r⟩,u⟩
 limf:=by
  obtain⟨mc,⟨o,es,ep,q,r⟩,u⟩:=R.lim
  exact (x.K.own _ (Heap.lt_size q)).trans R.limf
 gens:=x.fro.1.trans R.gens
 tkn e:=R.tkn (Nat.le_zero.mp (e ▸ x.tok))
theorem Pre.sm(P:Pre Z w N hd A env sc l H n γ s)(x:Sm γ s γ' s'):Pre Z w N hd A env sc l H n γ' s':=P.go x.K (P.r.sm x)
theorem Sm.slots{S:List Addr}(R:Rel Z w γ H n s)(hS:∀ a∈S,γ.own a=.env)(hs:Heap.SlotsOnly S s.heap h'):Sm γ s γ { s with heap:=h' }:=by
 have ne:∀ b,γ.own b≠.env→b∉S:=fun b q hb=>q (hS b hb)
 refine ⟨⟨Nat.le_of_eq hs.1.symm,fun _ _=>rfl,fun b o e f=>(hs.2.1 b (ne b (by rw [f];exact Ow.noConfusion))).trans e,fun b o e f _=>hs.2.2 b o e,fun b o e f _=>(hs.2.1 b (ne b (by rw [f];exact Ow.noConfusion))).trans e,fun b o fs e f d=>.same ((hs.2.1 b (ne b (by rw [f];exact Ow.noConfusion))).trans e) d (TbOk.keep (fun b o' e f=>(hs.2.1 b (ne b (by rw [f];exact Ow.noConfusion))).trans e) fun _ _=>rfl),fun _ _ e=>⟨e,rfl⟩,fun _ _ e=>e,fun _ _=>rfl,rfl,fun _ e=>e⟩,
  ⟨rfl,rfl⟩,fun b i p e=>hs.2.1 b (ne b (by rw [e];exact Ow.noConfusion)),fun _ _ _=>Iff.rfl,fun b q=>?_,rfl,rfl,⟨rfl,rfl,rfl⟩,Nat.le_refl _⟩
 show b < h'.objs.size
 rw [hs.1];exact R.bnd b q
theorem Sm.pushE(R:Rel Z w γ H n s)(o:Obj):Sm γ s (γ.take s.heap.objs.size .exn) { s with heap:=s.heap.push o }:=by
 refine ⟨(Kp.push o).take _ (Nat.le_refl _) (by rw [R.freshFree (Nat.le_refl _)];exact Ow.noConfusion),⟨rfl,rfl⟩,fun b i p e=>?_,fun b i p=>?_,fun b q=>?_,rfl,rfl,⟨rfl,rfl,rfl⟩,Nat.le_refl _⟩
 ·have lb:=R.bnd b (by rw [e];exact Ow.noConfusion)
  show (s.heap.push o).get? b=s.heap.get? b
  unfold Heap.get? Heap.push
  simp [Array.getElem?_push,Nat.ne_of_lt lb]
 ·by_cases q:b=s.heap.objs.size
  ·subst q;rw [Gh.take_self,R.freshFree (Nat.le_refl _)]
   constructor <;> (intro z;cases z)
  ·rw [Gh.take_ne _ _ q]
 ·show b < (s.heap.push o).objs.size
  rw [Heap.size_push]
  by_cases e:b=s.heap.objs.size
  ·rw [e];exact Nat.lt_succ_self _
  ·rw [Gh.take_ne _ _ e] at q;exact Nat.lt_succ_of_lt (R.bnd b q)
theorem Sm.field{a:Addr}{o:Obj}{fs:Array Value}{i:Nat}{v:Value}(R:Rel Z w γ H n s)(ow:γ.own a=.exn)(g:s.heap.get? a=some o)(d:o.data=.fields fs)(hi:i≠2)(hv:i=1→∃ T oT ts,v=.ref T∧γ.own T=.exn∧T≠a∧s.heap.get? T=some oT∧oT.data=.fields ts∧3 < ts.size):Sm γ s γ { s with heap:=s.heap.update a (Obj.mapFields (·.setIfInBounds i v)) }:=by
 have hs:=Heap.SameBut.update s.heap a (Obj.mapFields (·.setIfInBounds i v))
 have ne:∀ b,γ.own b≠.exn→b≠a:=fun b q z=>q (by rw [z];exact ow)
 refine ⟨⟨Nat.le_of_eq hs.1.symm,fun _ _=>rfl,fun b o e f=>(hs.2 b (ne b (by rw [f];exact Ow.noConfusion))).trans e,fun b o e f _=>⟨o.slots,(hs.2 b (ne b (by rw [f];exact Ow.noConfusion))).trans e⟩,fun b o e f _=>(hs.2 b (ne b (by rw [f];exact Ow.noConfusion))).trans e,fun b ob fs' e f d'=>?_,fun _ _ e=>⟨e,rfl⟩,fun _ _ e=>e,fun _ _=>rfl,rfl,fun _ e=>e⟩,
  ⟨rfl,rfl⟩,fun b i p e=>hs.2 b (ne b (by rw [e];exact Ow.noConfusion)),fun _ _ _=>Iff.rfl,fun b q=>?_,rfl,rfl,⟨rfl,rfl,rfl⟩,Nat.le_refl _⟩
 ·by_cases q:b=a
  ·subst q
   rw [g] at e;cases e
   rw [d] at d';cases d'
   obtain⟨oc,od,oda,osl⟩:=o
   dsimp only at d
   subst d
   refine ⟨fs.setIfInBounds i v,Heap.get?_update_self _ g rfl,by simp,.inl (by rw [Array.getElem?_setIfInBounds_ne (by omega)]),fun⟨T,oT,ts,u1,u2,u3,u4,u5,u6⟩=>?_⟩
   by_cases h1:i=1
   ·obtain⟨T',oT',ts',rfl,w2,w3,w4,w5,w6⟩:=hv h1
    subst h1
    exact⟨T',oT',ts',by rw [Array.getElem?_setIfInBounds_self_of_lt (Array.getElem?_eq_some_iff.mp u1).1],w2,w3,(hs.2 T' w3).trans w4,w5,w6⟩
   ·exact⟨T,oT,ts,by rw [Array.getElem?_setIfInBounds_ne h1];exact u1,u2,u3,(hs.2 T u3).trans u4,u5,u6⟩
  ·refine .same ((hs.2 b q).trans e) d' fun⟨T,oT,ts,u1,u2,u3,u4,u5,u6⟩=>?_
   by_cases hT:T=a
   ·subst hT
    rw [g] at u4;cases u4
    rw [d] at u5;cases u5
    obtain⟨oc,od,oda,osl⟩:=o
    dsimp only at d
    subst d
    exact⟨T,_,_,u1,u2,u3,Heap.get?_update_self _ g rfl,rfl,by simpa using u6⟩
   ·exact⟨T,oT,ts,u1,u2,u3,(hs.2 T hT).trans u4,u5,u6⟩
 ·show b < (s.heap.update a _).objs.size
  rw [hs.1];exact R.bnd b q
theorem frameOf_congr{env fe:Env}(h:fe.frame=env.frame):frameOf env=frameOf fe:=by unfold frameOf;rw [h]
theorem Pre.frm(P:Pre Z w N hd A env sc l H n γ s):∃ L,env.frame=some L:=P.es.frame
theorem frameOf_ok{Q:Value→Shared→Prop}{E:Value→Shared→Prop}(P:Pre Z w N hd A env sc l H n γ s){L:Addr}(hL:env.frame=some L)(q:∀ h',Sm γ s γ { s with heap:=h' }→(∀ b,γ.own b≠.env→h'.get? b=s.heap.get? b)→Q (.ref L) { s with heap:=h' }):wpAny (model prog w) A (frameOf env) Q E s:=by
 obtain⟨fe,outer,a,b,c,d⟩:=P.f
 rw [frameOf_congr b]
 refine wpAny_frameOf_fun a c (b.trans hL) fun h' hs=>?_
 have S:∀ a∈(fe :: outer).filterMap (·.frame),γ.own a=.env:=fun a ha=>by
  obtain⟨e,he,hL⟩:=List.mem_filterMap.mp ha
  exact d e he a hL
 exact q h' (Sm.slots P.r S hs) fun b hb=>hs.2.1 b fun z=>hb (S b z)
inductive FlyN(Z:SA)(γ:Gh)(h:Heap)(v:V)(e L:Addr):Prop | mk (ovs:Array Value):FlyD Z γ h v e ovs→FlyT γ h e ovs (·=rawInt L)→FlyN Z γ h v e L
theorem FlyD.get{e:Addr}{v:V}{ovs:Array Value}(x:FlyD Z γ h v e ovs):∃ c fs o,v=.exc c fs∧h.get? e=some o∧o.data=.fields ovs∧γ.own e=.exn∧ovs.size=6:=by
 cases v with
 | exc c fs=>obtain⟨cd,d,m,rvs,h1,h2,h3,h4,h5,h6,h7,h8,h9,_⟩:=x;exact⟨c,fs,_,rfl,h3,rfl,h4,h9⟩
 | _=>exact x.elim
theorem FlyD.up{e:Addr}{v:V}{ovs ovs':Array Value}(K:Kp NX γ h γ' h')(bnd:∀ b,γ.own b≠.free→b < h.objs.size)(x:FlyD Z γ h v e ovs){o:Obj}(g:h.get? e=some o)(g':h'.get? e=some { o with data:=.fields ovs' })(z:ovs'.size=ovs.size)(q:ovs'[2]?=ovs[2]?):FlyD Z γ' h' v e ovs':=by
 cases v with
 | exc c fs =>
  obtain⟨cd,d,m,rvs,h1,h2,h3,h4,h5,h6,h7,h8,h9,h10⟩:=x
  rw [g] at h3;cases h3
  exact⟨cd,d,m,rvs,h1,h2,g',(K.own _ (Heap.lt_size g)).trans h4,by obtain⟨od,_,_,g,_⟩:=h6;exact K.ownFree g h5,K.ns h6 h5,h7.mono K bnd,h8,z.trans h9,h10.imp q.trans fun⟨c,a,b,d⟩=>⟨c,q.trans a,b,d.mono K⟩⟩
 | _=>exact x.elim
theorem FlyD.same{e:Addr}{v:V}{ovs:Array Value}(K:Kp NX γ h γ' h')(bnd:∀ b,γ.own b≠.free→b < h.objs.size)(x:FlyD Z γ h v e ovs)(g:∀ o,h.get? e=some o→h'.get? e=some o):FlyD Z γ' h' v e ovs:=by
 obtain⟨c,fs,o,rfl,g0,d,_⟩:=x.get
 obtain⟨oc,od,oda,osl⟩:=o
 dsimp only at d
 subst d
 exact x.up K bnd g0 (g _ g0) rfl rfl
theorem newEntry_ok{Q:Unit→Shared→Prop}{E:Value→Shared→Prop}(P:Pre Z w N hd A env sc l H n γ s){L e:Addr}(hL:env.frame=some L){v:V}{ovs:Array Value}{head:Value}{b:Bool}(fd:FlyD Z γ s.heap v e ovs)
  (q:∀ γ' s',Sm γ s γ' s'→FlyN Z γ' s'.heap v e L→Q () s') :
  wpAny (model prog w) A (do let a ← frameOf env;let pl ← entryPlaceOf L b;let x ← EntryCells.newEntry head a .none (rawInt L) .none pl;setField (.ref e) 1 x) Q E s:=by
 refine wpAny_bind (frameOf_ok P hL fun h₁ S₁ same=>?_)
 refine wpAny_bind (wpAny_entryPlaceOf fun pl hpl=>?_)
 unfold EntryCells.newEntry newFields
 have R₁:=P.r.sm S₁
 refine wpAny_bind (wpAny_newObj_type ?_ (hpl.sizeOk5 _ _ _ _ _))
 obtain⟨c,fs,o,rfl,g0,d,ow,hz⟩:=fd.get
 have g1:h₁.get? e=some o:=(same e (by rw [ow];exact Ow.noConfusion)).trans g0
 have h3:([head,Value.ref L,.none,rawInt L,.none] ++ (if pl.isEmpty then List.replicate 6 Value.none else pl)).toArray[3]?=some (rawInt L):=by simp
 generalize ([head,Value.ref L,.none,rawInt L,.none] ++ (if pl.isEmpty then List.replicate 6 Value.none else pl)).toArray=ts at h3 ⊢
 have S₂:=Sm.pushE R₁ { cls:=.type "traceback",data:=.fields ts }
 have R₂:=R₁.sm S₂
 have g2:=Heap.get?_push_of_some { cls:=.type "traceback",data:=.fields ts } g1
 have lt:e < h₁.objs.size:=Heap.lt_size g1
 have ow2:(γ.take h₁.objs.size .exn).own e=.exn:=(Gh.take_ne _ _ (Nat.ne_of_lt lt)).trans ow
 have S₃:=Sm.field (i:=1) (v:=.ref h₁.objs.size) R₂ ow2 g2 d (by decide) fun _=>⟨h₁.objs.size,_,ts,rfl,Gh.take_self ..,Nat.ne_of_gt lt,Heap.get?_push_size h₁ rfl,rfl,(Array.getElem?_eq_some_iff.mp h3).1⟩
 refine wpAny_setField g2 d (by rw [hz];decide) (q _ _ (S₁.trans (S₂.trans S₃)) ?_)
 have gT:=(Heap.get?_update_other (h₁.push { cls:=.type "traceback",data:=.fields ts }) (Obj.mapFields (·.setIfInBounds 1 (.ref h₁.objs.size))) (Nat.ne_of_lt lt)).trans (Heap.get?_push_size h₁ rfl)
 obtain⟨oc,od,oda,osl⟩:=o
 dsimp only at d
 subst d
 refine ⟨_,fd.up (S₁.trans (S₂.trans S₃)).K P.r.bnd g0 (Heap.get?_update_self _ g2 rfl) (by simp) (by rw [Array.getElem?_setIfInBounds_ne (by decide)]),h₁.objs.size,_,ts,rawInt L,?_,Gh.take_self ..,Nat.ne_of_gt lt,gT,rfl,h3,rfl⟩
 rw [Array.getElem?_setIfInBounds_self_of_lt (by rw [hz];decide)]
theorem FlyT.field{e T:Addr}{ovs:Array Value}{oT:Obj}{ts:Array Value}{v:Value}(e1:ovs[1]?=some (.ref T))(ow:γ.own T=.exn)(ne:T≠e)(g:h.get? T=some oT)(d:oT.data=.fields ts)(h3:3 < ts.size){ok:Value→Prop}(hv:ok v) :
  FlyT γ (h.update T (Obj.mapFields (·.setIfInBounds 3 v))) e ovs ok:=by
 obtain⟨oc,od,oda,osl⟩:=oT
 dsimp only at d
 subst d
 exact⟨T,_,_,v,e1,ow,ne,Heap.get?_update_self _ g rfl,rfl,by rw [Array.getElem?_setIfInBounds_self_of_lt h3],hv⟩
theorem noteFrame_ok{Q:Unit→Shared→Prop}{E:Value→Shared→Prop}(P:Pre Z w N hd A env sc l H n γ s){rv:Value}{v:V}(fd:FlyS Z γ s.heap env v rv)
  (q:∀ γ' s' e L,rv=.ref e→env.frame=some L→Sm γ s γ' s'→FlyN Z γ' s'.heap v e L→Q () s'):wpAny (model prog w) A (noteFrame rv env) Q E s:=by
 obtain⟨L,hL⟩:=P.frm
 obtain⟨e,ovs,rfl,fd,tb⟩:=fd
 obtain⟨c,fs,o,rfl,g0,d,ow,hz⟩:=fd.get
 unfold noteFrame
 simp only [hL]
 rcases tb with tb | ⟨T,oT,ts,fl,t1,t2,t3,t4,t5,t6,t7⟩
 ·refine wpAny_bind (wpAny_field g0 d tb ?_)
  rw [if_neg (by decide)]
  exact newEntry_ok P hL fd fun γ' s' S f=>q γ' s' e L rfl hL S f
 ·refine wpAny_bind (wpAny_field g0 d t1 ?_)
  rw [if_pos (show (Value.ref T != Value.none)=true from by simp)]
  refine wpAny_bind (wpAny_field t4 t5 t6 ?_)
  rcases t7 with rfl | ⟨L',hL',rfl⟩
  ·rw [if_neg (show ¬ ((Value.none == rawInt L)=true) from by simp [rawInt])]
   have h3:3 < ts.size:=(Array.getElem?_eq_some_iff.mp t6).1
   refine wpAny_bind (wpAny_setField t4 t5 h3 ?_)
   have S₁:=Sm.field (i:=3) (v:=.none) P.r t2 t4 t5 (by decide) (fun z=>nomatch z)
   have P₁:=P.sm S₁
   have fd₁:=fd.same S₁.K P.r.bnd fun o g=>(Heap.get?_update_other _ _ t3).trans g
   exact newEntry_ok P₁ hL fd₁ fun γ' s' S f=>q γ' s' e L rfl hL (S₁.trans S) f
  ·rw [hL] at hL';cases hL'
   rw [if_pos (by simp)]
   exact wpAny_pure (q γ s e L rfl hL (SmX.refl P.r) ⟨ovs,fd,T,oT,ts,_,t1,t2,t3,t4,t5,t6,rfl⟩)
theorem setFlight_ok{Q:Unit→Shared→Prop}{E:Value→Shared→Prop}(P:Pre Z w N hd A env sc l H n γ s){e:Addr}{ovs:Array Value}{v:V}{ok ok':Value→Prop}{fr:Option Addr}(fd:FlyD Z γ s.heap v e ovs)(ft:FlyT γ s.heap e ovs ok)(hok:ok' (fr.elim .none fun f=>rawInt f))
  (q:∀ s',Sm γ s γ s'→FlyD Z γ s'.heap v e ovs→FlyT γ s'.heap e ovs ok'→Q () s'):wpAny (model prog w) A (setFlight (.ref e) fr) Q E s:=by
 obtain⟨c,fs,o,rfl,g0,d,ow,hz⟩:=fd.get
 obtain⟨T,oT,ts,fl,t1,t2,t3,t4,t5,t6,t7⟩:=ft
 unfold setFlight
 refine wpAny_bind (wpAny_field g0 d t1 ?_)
 rw [if_pos (show (Value.ref T != Value.none)=true from by simp)]
 have h3:3 < ts.size:=(Array.getElem?_eq_some_iff.mp t6).1
 have S₁:=Sm.field (i:=3) (v:=fr.elim .none fun f=>rawInt f) P.r t2 t4 t5 (by decide) (fun z=>nomatch z)
 refine wpAny_setField t4 t5 h3 (q _ S₁ (fd.same S₁.K P.r.bnd fun o g=>(Heap.get?_update_other _ _ t3).trans g) (FlyT.field t1 t2 t3 t4 t5 h3 hok))
end
section
variable{Z:SA}{w:World}{hd:Bool}{X:Addr→Prop}{γ γ' γ₁ γ₂:Gh}{h h':Heap}{s s' s₁ s₂:Shared}{H H':HT}{n n' N:Nat}{A:Around}{env:Env}{l l':FL}{k kx:KV}{ks ks':KS}{sc:List (PS × NameKind)}
theorem exc_back(P:Pre Z w N hd A env sc l H n γ s){e:Value}{s':Shared}(z:PostE Z w env γ s ks e s'):notedBy (model prog w) A env (fun e s'=>cameBackBy (model prog w) A env (PostE Z w env γ s ks) e s') e s':=by
 obtain⟨v,l',H',n',γ',a,R,K,en,fl,F⟩:=z
 have P':=P.goS K R en
 unfold notedBy
 refine noteFrame_ok P' fl fun γ1 s1 e' L he hL S1 fn=>?_
 subst he
 obtain⟨ovs,fd,ft⟩:=fn
 have P1:=P'.sm S1
 unfold cameBackBy
 obtain⟨c,fs,o,rfl,g0,d,ow,hz⟩:=fd.get
 obtain⟨T,oT,ts,fl',t1,t2,t3,t4,t5,t6,t7⟩:=id ft
 refine wpAny_bind (wpAny_field g0 d t1 ?_)
 rw [if_neg (by simp)]
 rw [hL]
 refine setFlight_ok (ok':=(·=rawInt L)) P1 fd ft rfl fun s2 S2 fd2 ft2=>?_
 have S:=S1.trans S2
 obtain⟨T2,oT2,ts2,fl2,u1,u2,u3,u4,u5,u6,u7⟩:=ft2
 exact⟨_,l',H',n',γ1,a,P1.r.sm S2,K.trans S.K.nx,(P1.sm S2).e,⟨e',ovs,rfl,fd2,.inr ⟨T2,oT2,ts2,fl2,u1,u2,u3,u4,u5,u6,.inr ⟨L,hL,u7⟩⟩⟩,F.trans S.fro⟩
theorem wlL_succ{t:TM}{b:SM}{ih:RR}{f:Nat}:wlL t b ih ks (f + 1) l H n=t ih l H n (fun r h n=>@Bool.rec (fun _=>Bool) (ks.nx l h n) (b ih l h n ⟨wlL t b ih ks f,ks.rt,ks.nx,ks.xc⟩) r) (fun e h n=>ks.xc e l h n):=rfl
inductive WhileI(Z:SA)(w:World)(N:Nat)(hd:Bool)(A:Around)(env:Env)(sc:List (PS × NameKind))(γ:Gh)(s:Shared)(k:FL→HT→Nat→Bool)(s1:Shared):Prop
 | mk (l1:FL) (H1:HT) (n1:Nat) (γ1:Gh):k l1 H1 n1=true→Pre Z w N hd A env sc l1 H1 n1 γ1 s1→Kp (Xs env) γ s.heap γ1 s1.heap→Fro s s1→WhileI Z w N hd A env sc γ s k s1
set_option tactic.hygienic true in
theorem sS_while{t:TM}{b:SM}{e:PX}{body:List Stmt}{p:Pos}(x:SndT Z w sc t e)(y:SndS Z w sc b body):SndS1 Z w sc (sWhile t b) (.While e body [] p):=fun N hd A env l H n ks γ s P q=>by
 refine wpAny_While ?_
 refine codeAny_whileLoop (fun m s1=>WhileI Z w N hd A env sc γ s (wlL t b (mk fnT FDeed N hd) ks m) s1) (fun m s1 I=>?_) 90 ⟨l,H,n,γ,q,P,.refl ..,.refl _⟩
 obtain⟨l1,H1,n1,γ1,q1,P1,K1,F1⟩:=I
 cases m with
 | zero=>cases q1
 | succ m =>
  rw [wlL_succ] at q1
  refine wpAny_mono (x N hd A env l1 H1 n1 _ _ γ1 s1 P1 q1 _ fun _=>rfl) (fun r s2 z=>?_) fun e s2 z=>exc_back P ((z.toE P1).up K1 F1)
  obtain⟨H2,n2,γ2,q2,R2,K2,F2⟩:=z
  have P2:=P1.go K2 R2
  have K12:=K1.trans K2.nx
  have F12:=F1.trans F2
  cases r with
  | false =>
   simp only [Bool.false_eq_true,if_false]
   exact wpAny_execs_nil ⟨l1,H2,n2,γ2,q2,R2,K12,P2.e,F12⟩
  | true =>
   simp only [if_true]
   have q2:b (mk fnT FDeed N hd) l1 H2 n2 ⟨wlL t b (mk fnT FDeed N hd) ks m,ks.rt,ks.nx,ks.xc⟩=true:=q2
   refine wpAny_mono (y N hd A env l1 H2 n2 _ γ2 s2 P2 q2) (fun f s3 z=>?_) fun e s3 z=>?_
   ·cases f with
    | next =>
     obtain⟨l3,H3,n3,γ3,q3,R3,K3,e3,F3⟩:=z
     exact⟨m,Nat.lt_succ_self m,l3,H3,n3,γ3,q3,P2.goS K3 R3 e3,K12.trans K3,F12.trans F3⟩
    | brk=>exact PostN.up K12 F12 z
    | cont=>exact z.elim
    | ret v=>exact PostR.up K12 F12 z
   ·exact exc_back P (PostE.up (ks:=ks) K12 F12 z)
end
inductive Rg(x y l:Int):Prop
 | some:y - x=l→0≤l→Rg x y l
 | none:l≤0→y≤x→Rg x y l
theorem Rg.pos{x y l:Int}(r:Rg x y l)(h:x < y):0 < l:=by cases r with | some a b=>rw [← a];exact Int.sub_pos_of_lt h | none a b=>exact absurd h (Int.not_lt.mpr b)
theorem Rg.stop{x y l:Int}(r:Rg x y l)(h:¬ x < y):l≤0:=by cases r with | some a b=>rw [← a];exact Int.sub_nonpos_of_le (Int.not_lt.mp h) | none a b=>exact a
set_option tactic.hygienic true in
theorem Rg.next{x y l x' y':Int}(r:Rg x y l)(h:0 < l)(e:y' - x'=y - x - 1):Rg x' y' (l - 1):=by
 cases r with
 | some a b=>exact .some (by rw [e,a]) (Int.le_sub_one_of_lt h)
 | none a b=>exact absurd h (Int.not_lt.mpr a)
theorem Rg.of(x y:Int):Rg x y (if x < y then y - x else 0):=by
 by_cases h:x < y
 ·rw [if_pos h];exact .some rfl (Int.sub_nonneg_of_le (Int.le_of_lt h))
 ·rw [if_neg h];exact .none (Int.le_refl 0) (Int.not_lt.mp h)
inductive ItR(Z:SA)(γ:Gh)(h:Heap):It→Addr→Prop
 | lst {id j:Nat} {it a:Addr}:γ.own a=.obj id 0→h.IsListIter it a j→ItR Z γ h (.lst id j) it
 | rng {a b s left:Int} {it:Addr}:IsRangeIter h it a left s→(s=1∧Rg a b left∨s=-1∧Rg b a left)→ItR Z γ h (.rng a b s) it
section
variable{Z:SA}{w:World}{hd:Bool}{X:Addr→Prop}{γ γ' γ₁ γ₂:Gh}{h h':Heap}{s s' s₁ s₂:Shared}{H H':HT}{n n' N:Nat}{A:Around}{env:Env}{l l':FL}{k kx:KV}{ks ks':KS}{sc:List (PS × NameKind)}
theorem ItR.mono{i:It}{it:Addr}(K:Kp X γ h γ' h')(bnd:∀ b,γ.own b≠.free→b < h.objs.size)(ow:γ.own it=.it)(nx:¬ X it)(x:ItR Z γ h i it):ItR Z γ' h' i it:=by
 cases x with
 | lst o g =>
  obtain⟨ob,g1,r⟩:=g
  exact .lst ((K.own _ (bnd _ (by rw [o];exact Ow.noConfusion))).trans o) ⟨ob,K.itr _ _ g1 ow nx,r⟩
 | rng g q=>exact .rng (K.itr _ _ g ow nx) q
theorem Rel.there(R:Rel Z w γ H n s){b:Addr}{i p:Nat}(q:γ.own b=.obj i p):∃ o,s.heap.get? b=some o:=by
 have ob:=R.obj i
 cases e:H.get i with
 | gone=>rw [e] at ob;exact absurd q (ob b p)
 | inst c fs=>rw [e] at ob;obtain⟨a,d,m,_,_,_,_,⟨_,_,o3⟩,g1,⟨od,es,ep,g2,_⟩,_⟩:=ob;rcases o3 b p q with rfl | rfl;exact⟨_,g1⟩;exact⟨_,g2⟩
 | lst _ _=>rw [e] at ob;obtain⟨a,_,_,_,⟨_,o2⟩,g1,_⟩:=ob;rw [o2 b p q];exact⟨_,g1⟩
 | dic _ _=>rw [e] at ob;obtain⟨a,_,⟨_,o2⟩,⟨_,_,_,g1,_⟩,_⟩:=ob;rw [o2 b p q];exact⟨_,g1⟩
 | sdic _ _=>rw [e] at ob;obtain⟨a,_,_,⟨_,o2⟩,⟨_,_,_,g1,_⟩,_⟩:=ob;rw [o2 b p q];exact⟨_,g1⟩
 | obar=>rw [e] at ob;obtain⟨a,d,lr,ld,_,_,_,_,⟨_,_,_,_,o5⟩,_,g1,⟨_,_,_,g2,_⟩,_,_,_,g3,⟨_,_,_,g4,_⟩,_⟩:=ob;rcases o5 b p q with rfl | rfl | rfl | rfl;exact⟨_,g1⟩;exact⟨_,g2⟩;exact⟨_,g3⟩;exact⟨_,g4⟩
 | ntab _=>rw [e] at ob;obtain⟨a,_,⟨_,o2⟩,g1,_⟩:=ob;rw [o2 b p q];exact⟨_,g1⟩
 | deck=>rw [e] at ob;obtain⟨a,c,e',⟨_,_,_,o4⟩,_,_,_,_,_,_,g1,g2,g3,_⟩:=ob;rcases o4 b p q with rfl | rfl | rfl;exact⟨_,g1⟩;exact⟨_,g2⟩;exact⟨_,g3⟩
theorem SmX.iter{it:Addr}(R:Rel Z w γ H n s)(ow:γ.own it=.it)(k:ItKeep it s.heap h'){t:Nat}(ht:s.toks≤t):SmX (fun b=>b=it) γ s γ { s with heap:=h',toks:=t }:=by
 have ne:∀ b,γ.own b≠.it→b≠it:=fun b q z=>q (by rw [z];exact ow)
 refine ⟨⟨k.size,fun _ _=>rfl,fun b o e f=>k.keep b o (ne b (by rw [f];exact Ow.noConfusion)) e,fun b o e f _=>⟨o.slots,k.keep b o (ne b (by rw [f];exact Ow.noConfusion)) e⟩,fun b o e f nx=>k.keep b o nx e,fun b o fs e f d=>.same (k.keep b o (ne b (by rw [f];exact Ow.noConfusion)) e) d (TbOk.keep (fun b o' e f=>k.keep b o' (ne b (by rw [f];exact Ow.noConfusion)) e) fun _ _=>rfl),fun _ _ e=>⟨e,rfl⟩,fun _ _ e=>e,fun _ _=>rfl,rfl,fun _ e=>e⟩,
  ⟨rfl,rfl⟩,fun b i p e=>?_,fun _ _ _=>Iff.rfl,fun b q=>Nat.lt_of_lt_of_le (R.bnd b q) k.size,rfl,rfl,⟨rfl,rfl,rfl⟩,ht⟩
 obtain⟨o,g⟩:=R.there e
 rw [g];exact k.keep b o (ne b (by rw [e];exact Ow.noConfusion)) g
theorem ItKeep.of_same{it:Addr}(hs:Heap.SameBut it h h'):ItKeep it h h':=⟨fun b o hb e=>(hs.2 b hb).trans e,Nat.le_of_eq hs.1.symm⟩
set_option tactic.hygienic true in
noncomputable def NextJ(Z:SA)(w:World)(γ:Gh)(s:Shared)(it:Addr)(kn:Bool)(ksf:V→It→Bool)(r:Option Value)(s':Shared):Prop:=SmX (fun b=>b=it) γ s γ s'∧match r with
 | none=>kn=true
 | some rv=>∃ v i,ksf v i=true∧VR Z γ s'.heap v rv∧ItR Z γ s'.heap i it
set_option tactic.hygienic true in
theorem range_end{E:Value→Shared→Prop}{it:Addr}{x left step:Int}{Q:Option Value→Shared→Prop}(hh:HdOk A hd γ s.heap)(hit:IsRangeIter s.heap it x left step)(hleft:left≤0)
  (hQ:∀ h',ItKeep it s.heap h'→Q none { s with heap:=h' }):wpAny (model prog w) A (pyNext (.ref it)) Q E s:=by
 have hT:s.TypeIs (.ref it) "range_iterator" := ⟨_,hit,rfl⟩
 unfold pyNext
 refine wpAny_bind (wpAny_attempt (wpAny_callSpecial?_slot (name:=Str.ofString "__next__") hT F.slot_range_iterator_next
  (wpAny_call_entry F.slot_range_iterator_next hT F.entry_range_iterator_next ?_ (F.args_range_iterator_next_1 _))))
 show wpAny _ _ (field (.ref it) 0 >>= _) _ _ s
 refine wpAny_bind (wpAny_field hit rfl (x:=rawInt x) rfl ?_)
 show wpAny _ _ (field (.ref it) 1 >>= _) _ _ s
 refine wpAny_bind (wpAny_field hit rfl (x:=rawInt left) rfl ?_)
 show wpAny _ _ (field (.ref it) 2 >>= _) _ _ s
 refine wpAny_bind (wpAny_field hit rfl (x:=rawInt step) rfl ?_)
 show wpAny _ _ (if left≤0 then _ else _) _ _ s
 rw [if_pos hleft]
 refine wpAny_bind (wpAny_rule ?_)
 refine wpAny_bind ?_
 refine stop_ok (hd:=hd) (γ:=γ) (h:=s.heap) (A:=A.in1) (s:=s) hh.in1 (Nat.le_refl _) (fun c x=>⟨by cases x with | last g _ _ _=>exact Heap.lt_size g | next g _ _ _ _ _=>exact Heap.lt_size g,x⟩) fun h' a k z g=>?_
 refine wpAny_bind (wpAny_isInstance (T:= "StopIteration") (b:=true) g isSubtype_stop ?_)
 exact wpAny_pure (hQ _ ⟨fun b o hb e=>k _ _ e,z⟩)
theorem intK_spec{z:Int}{k:Int→Bool}(q:intK z k=true):k z=true:=by cases z <;> exact q
set_option tactic.hygienic true in
theorem next_lst{E:Value→Shared→Prop}(hh:HdOk A hd γ s.heap)(R:Rel Z w γ H n s){id j:Nat}{vs:VL}(e:H.get id=.lst 0 vs){it:Addr}(x:ItR Z γ s.heap (.lst id j) it)(ow:γ.own it=.it) :
  wpAny (model prog w) A (pyNext (.ref it)) (fun r s'=>SmX (fun b=>b=it) γ s γ s'∧match r with | none=>vs[j]?=none | some rv=>∃ v,vs[j]?=some v∧VR Z γ s'.heap v rv∧ItR Z γ s'.heap (.lst id (j + 1)) it) E s:=by
 cases x with
 | @lst id j _ a o hit =>
  obtain⟨ws,m,g,v1,l1⟩:=R.lst0 e o
  have L:=isList_of g
  cases hv:vs[j]? with
  | some v =>
   obtain⟨rv,e3,vr⟩:=v1.getV hv
   refine wpAny_pyNext_list_item hit L (x:=rv) ((List.getElem?_toArray ..).trans e3) fun h' hit' hs=>?_
   have S:=SmX.iter R ow (ItKeep.of_same hs) (Nat.le_refl s.toks)
   exact⟨S,v,rfl,vr.mono S.K R.bnd,.lst o hit'⟩
  | none =>
   refine list_end hh (by rw [ow];exact Ow.noConfusion) hit L ((List.getElem?_toArray ..).trans ?_) fun h' k=>⟨SmX.iter R ow k (Nat.le_refl _),rfl⟩
   rw [List.getElem?_eq_none_iff,← v1.len];exact List.getElem?_eq_none_iff.mp hv
set_option tactic.hygienic true in
theorem next_ok{E:Value→Shared→Prop}(hh:HdOk A hd γ s.heap){i:It}(R:Rel Z w γ H n s){it:Addr}{kn:Bool}{ksf:V→It→Bool}(x:ItR Z γ s.heap i it)(ow:γ.own it=.it)(q:nextOf i H kn ksf=true) :
  wpAny (model prog w) A (pyNext (.ref it)) (NextJ Z w γ s it kn ksf) E s:=by
 cases x with
 | @lst id j _ a o hit =>
  obtain⟨vs,e,q⟩:=lst0_spec (show Mine.lst0 (H.get id) _=true from q)
  refine wpAny_mono (next_lst hh R e (.lst o hit) ow) (fun r s' z=>?_) fun _ _ z=>z
  obtain⟨S,z⟩:=z
  rw [at_eq] at q
  cases r with
  | none=>rw [show vs[j]?=none from z] at q;exact⟨S,q⟩
  | some rv=>obtain⟨v,hv,vr,ir⟩:=z;rw [hv] at q;exact⟨S,v,_,q,vr,ir⟩
 | @rng a b z left _ hit hq =>
  have item:0 < left→ksf (.a (.int a)) (.rng (a + z) b z)=true→wpAny (model prog w) A (pyNext (.ref it)) (NextJ Z w γ s it kn ksf) E s:=by
   intro hl q
   refine wpAny_pyNext_range_item hit hl fun h' hit' hs=>?_
   have S:=SmX.iter R ow (ItKeep.of_same hs) (Nat.le_succ s.toks)
   refine ⟨S,_,_,q,.int a s.toks R.tkn,.rng hit' ?_⟩
   rcases hq with ⟨rfl,hq⟩ | ⟨rfl,hq⟩
   ·exact .inl ⟨rfl,hq.next hl (Int.sub_sub ..).symm⟩
   ·exact .inr ⟨rfl,hq.next hl (by rw [Int.sub_eq_add_neg,Int.sub_eq_add_neg,Int.sub_eq_add_neg,Int.add_right_comm])⟩
  have stop:left≤0→kn=true→wpAny (model prog w) A (pyNext (.ref it)) (NextJ Z w γ s it kn ksf) E s:=fun hl q =>
   range_end hh hit hl fun h' k=>⟨SmX.iter R ow k (Nat.le_refl _),q⟩
  rcases hq with ⟨rfl,hq⟩ | ⟨rfl,hq⟩
  ·have q:@Bool.rec (fun _=>Bool) kn (intK (Int.add a 1) fun a'=>ksf (.a (.int a)) (.rng a' b 1)) (ltB a b)=true:=q
   rw [lt_B] at q
   by_cases hab:a < b
   ·rw [decide_eq_true hab] at q;exact item (hq.pos hab) (intK_spec q)
   ·rw [decide_eq_false hab] at q;exact stop (hq.stop hab) q
  ·have q:@Bool.rec (fun _=>Bool) kn (intK (Int.add a (-1)) fun a'=>ksf (.a (.int a)) (.rng a' b (-1))) (ltB b a)=true:=q
   rw [lt_B] at q
   by_cases hab:b < a
   ·rw [decide_eq_true hab] at q;exact item (hq.pos hab) (intK_spec q)
   ·rw [decide_eq_false hab] at q;exact stop (hq.stop hab) q
end
section
variable{Z:SA}{w:World}{hd:Bool}{X:Addr→Prop}{γ γ' γ₁ γ₂:Gh}{h h':Heap}{s s' s₁ s₂:Shared}{H H':HT}{n n' N:Nat}{A:Around}{env:Env}{l l':FL}{k kx:KV}{ks ks':KS}{sc:List (PS × NameKind)}
theorem Kp.xs{X':Addr→Prop}(x:Kp X' γ h γ₁ h₁)(k:∀ b,X' b→X b):Kp X γ h γ₁ h₁:=x.widen fun b q=>.inl (k b q)
theorem Kp.noIt{I:Addr→Prop}(K:Kp I γ h γ' h')(hI:∀ b,I b→γ.own b=.it):∀ b o,h.get? b=some o→γ.own b=.env→∃ sl,h'.get? b=some { o with slots:=sl } :=
 fun b o e f=>K.env b o e f fun q=>by rw [hI b q] at f;cases f
theorem EnvR.monoI{I:Addr→Prop}(K:Kp I γ h γ' h')(hI:∀ b,I b→γ.own b=.it)(bnd:∀ b,γ.own b≠.free→b < h.objs.size)(x:EnvR Z γ h env l):EnvR Z γ' h' env l:=x.monoG K (fun b o e f _=>K.noIt hI b o e f) bnd
theorem FrOk.monoI{I:Addr→Prop}(K:Kp I γ h γ' h')(hI:∀ b,I b→γ.own b=.it)(bnd:∀ b,γ.own b≠.free→b < h.objs.size)(x:FrOk A γ h env):FrOk A γ' h' env:=x.monoG K (fun b o e f=>let ⟨sl,g⟩:=K.noIt hI b o e f;⟨_,g,id⟩) bnd
theorem Pre.smI{I:Addr→Prop}(P:Pre Z w N hd A env sc l H n γ s)(x:SmX I γ s γ' s')(hI:∀ b,I b→γ.own b=.it):Pre Z w N hd A env sc l H n γ' s' :=
 ⟨P.C,P.a,P.hd.mono x.K,P.es,P.ec,P.f.monoI x.K hI P.r.bnd,P.r.sm x,P.e.monoI x.K hI P.r.bnd⟩
structure ItOK(Z:SA)(w:World)(target:PX)(itv:Value)(I:Addr→Prop)(J:It→Gh→Heap→Prop):Prop where
 mono:∀ {i:It} {γ:Gh} {h:Heap} {γ':Gh} {h':Heap} {X:Addr→Prop},Kp X γ h γ' h'→(∀ b,γ.own b≠.free→b < h.objs.size)→(∀ b,I b→γ.own b=.it∧¬ X b)→J i γ h→J i γ' h'
 turn:∀ {A:Around} {hd:Bool} {γ:Gh} {s:Shared} {H:HT} {n:Nat} {i:It} {kn:Bool} {ksf:V→It→Bool} {E:Value→Shared→Prop},HdOk A hd γ s.heap→Rel Z w γ H n s→(∀ b,I b→γ.own b=.it)→J i γ s.heap→nextOf i H kn ksf=true →
  wpAny (model prog w) A (pyNext itv) (fun r s1=>match r with
   | none=>SmX I γ s γ s1∧kn=true
   | some rv=>wpAny (model prog w) A (letOwnedTupleGo target itv rv) (fun _ s2=>SmX I γ s γ s2∧∃ v i',ksf v i'=true∧VR Z γ s2.heap v rv∧J i' γ s2.heap) E s1) E s
theorem foL_succ{t:TGT}{b:SM}{ih:RR}{f:Nat}{i:It}:foL t b ih ks (f + 1) i l H n=nextOf i H (ks.nx l H n) fun v i'=>bindT t v l fun l'=>b ih l' H n ⟨fun l h n=>foL t b ih ks f i' l h n,ks.rt,ks.nx,ks.xc⟩:=rfl
theorem EnvR.notIt{I:Addr→Prop}(en:EnvR Z γ h env l)(hI:∀ b,I b→γ.own b=.it):∀ b,I b→¬ Xs env b:=by
 intro b hb x
 obtain⟨m,hn,ho,hc,_⟩:=en
 rcases x with rfl | ⟨y,hy⟩
 ·rw [hI _ hb] at ho;cases ho
 ·obtain⟨_,_,_,_,q⟩:=hc.at_ y b hy
  rw [hI _ hb] at q
  rcases q with q | q <;> cases q
inductive ForI(Z:SA)(w:World)(N:Nat)(hd:Bool)(A:Around)(env:Env)(sc:List (PS × NameKind))(I:Addr→Prop)(J:It→Gh→Heap→Prop)(γ₀:Gh)(s₀:Shared)(k:It→FL→HT→Nat→Bool)(s1:Shared):Prop
 | mk (i1:It) (l1:FL) (H1:HT) (n1:Nat) (γ1:Gh):k i1 l1 H1 n1=true→Pre Z w N hd A env sc l1 H1 n1 γ1 s1→Kp (Xs env) γ₀ s₀.heap γ1 s1.heap→(∀ b,I b→γ1.own b=.it)→J i1 γ1 s1.heap→Fro s₀ s1→ForI Z w N hd A env sc I J γ₀ s₀ k s1
set_option tactic.hygienic true in
theorem for_ok{t:TGT}{b:SM}{target:PX}{body:List Stmt}{itv:Value}{I:Addr→Prop}{J:It→Gh→Heap→Prop}{i:It}(T:TgtE sc t target)(y:SndS Z w sc b body)(W:ItOK Z w target itv I J){s₀:Shared}{γ₀:Gh}{l₀:FL}{H₀:HT}{n₀:Nat}
  (P₀:Pre Z w N hd A env sc l₀ H₀ n₀ γ₀ s₀) (K₀:Kp (Xs env) γ₀ s₀.heap γ s.heap) (F₀:Fro s₀ s) (P:Pre Z w N hd A env sc l H n γ s) (hI:∀ b,I b→γ.own b=.it∧s₀.heap.objs.size≤b) (hJ:J i γ s.heap) {f:Nat} (q:foL t b (mk fnT FDeed N hd) ks f i l H n=true) :
  codeAny (model prog w) A (.forLoop target itv body [] env) (fun r s'=>match r with | .ok f=>PostF Z w env γ₀ s₀ ks f s' | .error e=>cameBackBy (model prog w) A env (PostE Z w env γ₀ s₀ ks) e s') s:=by
 refine codeAny_forLoop_any (fun m s1=>ForI Z w N hd A env sc I J γ₀ s₀ (foL t b (mk fnT FDeed N hd) ks m) s1)
  (fun m s1 I1=>?_) f ⟨i,l,H,n,γ,q,P,K₀,fun b hb=>(hI b hb).1,hJ,F₀⟩
 obtain⟨i1,l1,H1,n1,γ1,q1,P1,K1,hI1,J1,F1⟩:=I1
 have wid:∀ {γ2:Gh} {h2:Heap},Kp I γ1 s1.heap γ2 h2→Kp (Xs env) γ₀ s₀.heap γ2 h2:=fun K2 =>
  ((K1.xs (X:=fun b=>Xs env b∨I b) fun b h=>.inl h).trans (K2.xs fun b h=>.inr h)).widen fun b h=>h.imp id fun z=>(hI b z).2
 cases m with
 | zero=>cases q1
 | succ m =>
  rw [foL_succ] at q1
  refine wpAny_mono (W.turn P1.hd P1.r hI1 J1 q1) (fun r s2 z=>?_) fun e s2 z=>z
  cases r with
  | none =>
   obtain⟨S2,q2⟩:=z
   have P2:=P1.smI S2 hI1
   exact wpAny_execs_nil ⟨l1,H1,n1,γ1,q2,P2.r,wid S2.K,P2.e,F1.trans S2.fro⟩
  | some rv =>
   refine wpAny_mono z (fun _ s3 z=>?_) fun _ _ z=>z
   obtain⟨S3,v,i',q3,vr,J3⟩:=z
   have P3:=P1.smI S3 hI1
   refine wpAny_mono (assign_ok T P3.es P3.ec P3.hd P3.r P3.e vr q3) (fun _ s4 z=>?_) fun _ _ z=>z
   obtain⟨l4,q4,R4,K4,e4,F4⟩:=z
   have P4:=P3.goS K4 R4 e4
   have K14:=(wid S3.K).trans K4
   have F14:=F1.trans (S3.fro.trans F4)
   have J4:=W.mono K4 P3.r.bnd (fun b hb=>⟨hI1 b hb,P3.e.notIt hI1 b hb⟩) J3
   refine wpAny_mono (y N hd A env l4 H1 n1 _ γ1 s4 P4 q4) (fun f s5 z=>?_) fun e s5 z=>?_
   ·cases f with
    | next =>
     obtain⟨l5,H5,n5,γ5,q5,R5,K5,e5,F5⟩:=z
     refine ⟨m,Nat.lt_succ_self m,i',l5,H5,n5,γ5,q5,P4.goS K5 R5 e5,K14.trans K5,fun b hb=>?_,W.mono K5 P4.r.bnd (fun b hb=>⟨hI1 b hb,P4.e.notIt hI1 b hb⟩) J4,F14.trans F5⟩
     exact (K5.own b (P4.r.bnd b (by rw [hI1 b hb];exact Ow.noConfusion))).trans (hI1 b hb)
    | brk=>exact PostN.up K14 F14 z
    | cont=>exact z.elim
    | ret v=>exact PostR.up K14 F14 z
   ·exact exc_back P₀ (PostE.up (ks:=ks) K14 F14 z)
end
section
variable{Z:SA}{w:World}{hd:Bool}{X:Addr→Prop}{γ γ' γ₁ γ₂:Gh}{h h':Heap}{s s' s₁ s₂:Shared}{H H':HT}{n n' N:Nat}{A:Around}{env:Env}{l l':FL}{k kx:KV}{ks ks':KS}{sc:List (PS × NameKind)}
theorem Sm.pushO(R:Rel Z w γ H n s)(o:Obj)(ow:Ow)(hne:∀ i p,ow≠.obj i p):Sm γ s (γ.take s.heap.objs.size ow) { s with heap:=s.heap.push o }:=by
 refine ⟨(Kp.push o).take _ (Nat.le_refl _) (by rw [R.freshFree (Nat.le_refl _)];exact Ow.noConfusion),⟨rfl,rfl⟩,fun b i p e=>?_,fun b i p=>?_,fun b q=>?_,rfl,rfl,⟨rfl,rfl,rfl⟩,Nat.le_refl _⟩
 ·have lb:=R.bnd b (by rw [e];exact Ow.noConfusion)
  show (s.heap.push o).get? b=s.heap.get? b
  unfold Heap.get? Heap.push
  simp [Array.getElem?_push,Nat.ne_of_lt lb]
 ·by_cases q:b=s.heap.objs.size
  ·subst q;rw [Gh.take_self,R.freshFree (Nat.le_refl _)]
   constructor
   ·intro z;exact absurd z (hne i p)
   ·intro z;cases z
  ·rw [Gh.take_ne _ _ q]
 ·show b < (s.heap.push o).objs.size
  rw [Heap.size_push]
  by_cases e:b=s.heap.objs.size
  ·rw [e];exact Nat.lt_succ_self _
  ·rw [Gh.take_ne _ _ e] at q;exact Nat.lt_succ_of_lt (R.bnd b q)
theorem smallZ_spec{z:Int}(e:smallZ z=true):-(2 ^ 62)≤z∧z < 2 ^ 62:=by
 cases z with
 | ofNat n=>exact⟨Int.le_trans (by decide) (Int.natCast_nonneg n),Int.lt_of_le_of_lt (Int.ofNat_le.mpr (Nat.le_of_ble_eq_true e)) (by decide)⟩
 | negSucc n=>exact⟨Int.le_trans (by decide) (Int.neg_le_neg (Int.ofNat_le.mpr (Nat.succ_le_succ (Nat.le_of_ble_eq_true e)))),Int.lt_trans (Int.negSucc_lt_zero n) (by decide)⟩
theorem iter_ok{E:Value→Shared→Prop}(P:Pre Z w N hd A env sc l H n γ s){v:V}{rv:Value}{kk:It→Bool}(q:iteratorOf v H kk=true)(vr:VR Z γ s.heap v rv) :
  wpAny (model prog w) A (pyIter rv) (fun itv s'=>∃ i it γ',itv=.ref it∧kk i=true∧Sm γ s γ' s'∧γ'.own it=.it∧s.heap.objs.size≤it∧ItR Z γ' s'.heap i it) E s:=by
 have take:γ.own s.heap.objs.size=.free:=P.r.freshFree (Nat.le_refl _)
 have rng:∀ {a b z:Int},kk (.rng a b z)=true→VR Z γ s.heap (.a (.rng a b z)) rv→wpAny (model prog w) A (pyIter rv) (fun itv s'=>∃ i it γ',itv=.ref it∧kk i=true∧Sm γ s γ' s'∧γ'.own it=.it∧s.heap.objs.size≤it∧ItR Z γ' s'.heap i it) E s:=by
  intro a b z q vr
  obtain⟨_,_,_,_,rfl,g,f,sa,sb,sz⟩:=vr
  obtain⟨ha,ha'⟩:=smallZ_spec sa
  obtain⟨hb,hb'⟩:=smallZ_spec sb
  have hs:Builtin.Range.small a b z=true∧(z=1∧Rg a b (Builtin.Range.rangeSize a b z)∨z=-1∧Rg b a (Builtin.Range.rangeSize a b z)):=by
   rcases sz with rfl | rfl
   ·exact⟨small_one ha ha' hb hb',.inl ⟨rfl,rangeSize_one a b ▸ .of a b⟩⟩
   ·exact⟨PySem.W.small_down ha ha' hb hb',.inr ⟨rfl,PySem.W.rangeSize_down a b ▸ .of b a⟩⟩
  exact wpAny_pyIter_range g hs.1 ⟨_,_,_,rfl,q,Sm.pushO P.r _ .it (fun _ _=>Ow.noConfusion),Gh.take_self ..,Nat.le_refl _,.rng (left:=Builtin.Range.rangeSize a b z) (Heap.get?_push_size _ rfl) hs.2⟩
 cases v with
 | a c=>cases c with
  | rng a b z=>exact rng q vr
  | _=>exact ff q
 | ref i =>
  obtain⟨ad,rfl,o⟩:=vr.ref_inv
  obtain⟨vs,e,q⟩:=lst0_spec q
  obtain⟨ws,m,g,v1,l1⟩:=P.r.lst0 e o
  have S:=Sm.pushO P.r { cls:=.type "list_iterator",data:=.fields #[.ref ad,.int 0 0] } .it (fun _ _=>Ow.noConfusion)
  refine wpAny_pyIter_list (isList_of g) ?_
  exact⟨_,_,_,rfl,q,S,Gh.take_self ..,Nat.le_refl _,.lst ((S.own _ _ _).mpr o) ⟨_,Heap.get?_push_size _ rfl,rfl,rfl⟩⟩
 | _=>exact ff q
theorem ItR.cls{i:It}{it:Addr}(x:ItR Z γ h i it):∃ o n,h.get? it=some o∧o.cls=.type n∧(["enumerate","zip","dict_itemiterator","dict_reverseitemiterator","odict_iterator","itertools.zip_longest","itertools.pairwise"].contains n)=false:=by
 cases x with
 | lst _ g=>obtain⟨o,g,c,_⟩:=g;exact⟨o,_,g,c,by decide⟩
 | rng g _=>exact⟨_,_,g,rfl,by decide⟩
theorem letGo_ok{t:TGT}{target:PX}{i:It}{it:Addr}{rv:Value}{Q:Unit→Shared→Prop}{E:Value→Shared→Prop}(T:TgtE sc t target)(x:ItR Z γ s.heap i it)(q:Q () s):wpAny (model prog w) A (letOwnedTupleGo target (.ref it) rv) Q E s:=by
 cases T with
 | one _ _=>exact wpAny_pure q
 | many _ =>
  obtain⟨o,nm,g,c,hn⟩:=x.cls
  unfold letOwnedTupleGo
  cases rv with
  | ref a =>
   refine wpAny_bind (wpAny_load g ?_)
   rw [c]
   cases o.data with
   | fields vs=>dsimp only;rw [hn,Bool.false_and,if_neg Bool.false_ne_true];exact wpAny_pure q
   | _=>exact wpAny_pure q
  | _=>exact wpAny_pure q
theorem itOK{t:TGT}{target:PX}{it:Addr}(T:TgtE sc t target):ItOK Z w target (.ref it) (fun b=>b=it) (fun i γ h=>ItR Z γ h i it) where
 mono K bnd hI x:=x.mono K bnd (hI it rfl).1 (hI it rfl).2
 turn hh R hI x q:=by
  refine wpAny_mono (next_ok hh R x (hI it rfl) q) (fun r s1 z=>?_) fun _ _ z=>z
  cases r with
  | none=>exact z
  | some rv =>
   obtain⟨S,v,i',a,b,c⟩:=z
   exact letGo_ok T c ⟨S,v,i',a,b,c⟩
theorem sS_for{t:TGT}{target e:PX}{m:EM}{b:SM}{body:List Stmt}{p:Pos}(T:TgtE sc t target)(x:SndE Z w sc m e)(y:SndS Z w sc b body)(hs:∀ env x,foldedSetIterable e env x=pure x):SndS1 Z w sc (sFor t m b) (.For target e body [] p):=fun N hd A env l H n ks γ s P q=>by
 have q:m (mk fnT FDeed N hd) l H n (fun v h n=>iteratorOf v h fun i=>foL t b (mk fnT FDeed N hd) ks 60 i l h n) (fun e h n=>ks.xc e l h n)=true:=q
 refine wpAny_For (wpAny_mono (x.at P q) (fun rv s1 z=>?_) fun e s' z=>z.toE P) (hs env)
 obtain⟨v,H1,n1,γ1,q1,R1,K1,vr,F1⟩:=z
 have P1:=P.go K1 R1
 refine wpAny_mono (iter_ok P1 q1 vr) (fun itv s2 z=>?_) fun _ _ z=>z
 obtain⟨i,it,γ2,rfl,q2,S2,ow,le,ir⟩:=z
 exact for_ok T y (itOK T) P (K1.nx.trans S2.K.nx) (F1.trans S2.fro) (P1.sm S2) (fun b hb=>by subst hb;exact⟨ow,Nat.le_trans K1.size le⟩) ir q2
end
theorem FL.setK_eq(x:Nat)(v:V):∀ l:FL,∃ l',(∀ k:FL→Bool,l.setK x v k=k l')∧∀ y,l'.look y=if y=x then some v else l.look y:=by
 intro l
 induction l with
 | nil=>exact⟨.cons x v .nil,fun _=>rfl,fun y=>by
   rw [FL.look_cons]
   by_cases h:x=y
   ·rw [if_pos h,if_pos h.symm]
   ·rw [if_neg h,if_neg (Ne.symm h)]⟩
 | cons a w r ih =>
  obtain⟨l',e1,e2⟩:=ih
  have red:∀ k:FL→Bool,(FL.cons a w r).setK x v k=@Bool.rec (fun _=>Bool) (r.setK x v fun r'=>k (.cons a w r')) (k (.cons a v r)) (Nat.beq a x):=fun _=>rfl
  by_cases h:a=x
  ·refine ⟨.cons a v r,fun k=>by rw [red,beqE a x,decide_eq_true h],fun y=>?_⟩
   subst h
   rw [FL.look_cons,FL.look_cons]
   by_cases h:a=y
   ·rw [if_pos h,if_pos h.symm]
   ·rw [if_neg h,if_neg (Ne.symm h),if_neg h]
  ·refine ⟨.cons a w l',fun k=>by rw [red,beqE a x,decide_eq_false h];exact e1 _,fun y=>?_⟩
   rw [FL.look_cons,FL.look_cons,e2]
   by_cases q:a=y
   ·rw [if_pos q,if_pos q,if_neg (by rw [← q];exact h)]
   ·rw [if_neg q,if_neg q]
noncomputable def tnames:TGT→List Nat
 | .one x=>[x]
 | .many xs=>xs
theorem bindNames_eq:∀ (xs:List Nat) (vs:VL) (l:FL) {kk:FL→Bool},bindNames xs vs l kk=true→∃ l',(∀ k:FL→Bool,bindNames xs vs l k=k l')∧∀ y,y∉xs→l'.look y=l.look y:=by
 intro xs
 induction xs with
 | nil =>
  intro vs l kk q
  cases vs with
  | nil=>exact⟨l,fun _=>rfl,fun _ _=>rfl⟩
  | cons _ _=>cases q
 | cons x xs ih =>
  intro vs l kk q
  cases vs with
  | nil=>cases q
  | cons v vs =>
   rw [bindNames_cons] at q
   obtain⟨l1,e1,e2⟩:=FL.setK_eq x v l
   rw [e1] at q
   obtain⟨l2,e3,e4⟩:=ih vs l1 q
   refine ⟨l2,fun k=>by rw [bindNames_cons,e1,e3],fun y hy=>?_⟩
   rw [e4 y (fun z=>hy (.tail _ z)),e2,if_neg (fun z=>hy (by rw [z];exact .head _))]
theorem bindT_eq{t:TGT}{v:V}{l:FL}{kk:FL→Bool}(q:bindT t v l kk=true):∃ l',(∀ k:FL→Bool,bindT t v l k=k l')∧∀ y,y∉tnames t→l'.look y=l.look y:=by
 cases t with
 | one x =>
  obtain⟨l1,e1,e2⟩:=FL.setK_eq x v l
  exact⟨l1,e1,fun y hy=>by rw [e2,if_neg (fun z=>hy (by rw [z];exact .head _))]⟩
 | many xs =>
  cases v with
  | tup vs=>exact bindNames_eq xs vs l q
  | _=>cases q
section
variable{w:World}{A:Around}{R:Result→Shared→Prop}{s:Shared}
theorem compLoop_gen{elt target iter:PX}{scope:Scope}{pos:Pos}{it acc:Value}{env:Env}(I:Nat→Shared→Prop)
  (turn:∀ n s,I n s→wpAny (model prog w) A (pyNext it) (fun r s₁=>match r with
   | none=>R (.ok .next) s₁
   | some v=>wpAny (model prog w) A (letOwnedTupleGo target it v) (fun _ s₁'=>wpAny (model prog w) A (assign target env v) (fun _ s₂=>wpAny (model prog w) A (eval elt env) (fun x s₃ =>
     wpAny (model prog w) A (PySem.call (.builtin "list.append") [acc,x]) (fun _ s₄=>∃ m,m < n∧I m s₄) (notedBy (model prog w) A env fun e s'=>R (.error e) s') s₃)
     (notedBy (model prog w) A env fun e s'=>R (.error e) s') s₂) (notedBy (model prog w) A env fun e s'=>R (.error e) s') s₁') (notedBy (model prog w) A env fun e s'=>R (.error e) s') s₁) (notedBy (model prog w) A env fun e s'=>R (.error e) s') s)
  (n:Nat) (h:I n s):codeAny (model prog w) A (.compLoop (.ListComp elt [⟨target,iter,[],0⟩] scope pos) 0 it acc env) R s:=by
 refine codeAny_loop rfl I (fun n s hI=>?_) n h
 show wpAny _ _ ((compTurn (.ListComp elt [⟨target,iter,[],0⟩] scope pos) 0 it acc env).onRaise (fun x=>do noteFrame x env;theTreesLotGoes x)) _ _ s
 refine wpAny_noted ?_
 rw [compTurn_list1]
 refine wpAny_bind (wpAny_standAt (wpAny_bind (wpAny_mono (turn n s hI) (fun r s₁ h₁=>?_) fun _ _ h'=>h')))
 cases r with
 | none=>exact wpAny_pure h₁
 | some v =>
  refine wpAny_bind (wpAny_mono h₁ (fun _ s₁' h₁'=>?_) fun _ _ h'=>h')
  exact wpAny_bind (wpAny_mono h₁' (fun _ s₂ h₂=>wpAny_bind (wpAny_bind (wpAny_mono h₂ (fun x s₃ h₃=>wpAny_bind (wpAny_mono h₃
   (fun _ s₄ h₄=>wpAny_pure (wpAny_pure ⟨rfl,h₄⟩)) fun _ _ h'=>h')) fun _ _ h'=>h'))) fun _ _ h'=>h')
end
section
variable{Z:SA}{w:World}{γ:Gh}{A:Around}{E:Value→Shared→Prop}{s:Shared}
theorem ItR.self{i:It}{it:Addr}{Q:Value→Shared→Prop}(x:ItR Z γ s.heap i it)(q:Q (.ref it) s):wpAny (model prog w) A (pyIter (.ref it)) Q E s:=by
 cases x with
 | lst _ g=>exact wpAny_pyIter_listiter g q
 | rng g _=>exact wpAny_pyIter_rangeiter g q
end
theorem relabel_lookup{env:Env}:∀ {nms:List (PS × NameKind)} {x:PS} {k:NameKind},nms.lookup x=some k →
  (nms.map fun (n,k)=>if (k == NameKind.free && env.scope.kind == .function && env.kindOf n == some .cell) then (n,NameKind.cell) else (n,k)).lookup x =
   some (if (k == NameKind.free && env.scope.kind == .function && env.kindOf x == some .cell) then .cell else k)
 | [],_,_,h=>by simp at h
 | (n,k0) :: r,x,k,h=>by
  have ih:=@relabel_lookup env r x k
  show List.lookup x ((if (k0 == NameKind.free && env.scope.kind == .function && env.kindOf n == some .cell)=true then (n,NameKind.cell) else (n,k0)) :: _)=_
  cases hx:x == n with
  | true =>
   simp only [List.lookup_cons,hx] at h
   cases h
   have hxn:x=n:=by simpa using hx
   subst hxn
   split <;> simp [List.lookup_cons]
  | false =>
   simp only [List.lookup_cons,hx] at h
   split <;> (simp only [List.lookup_cons,hx];exact ih h)
theorem relabel_none{env:Env}:∀ {nms:List (PS × NameKind)} {x:PS} {k:NameKind},
  (nms.map fun (n,k)=>if (k == NameKind.free && env.scope.kind == .function && env.kindOf n == some .cell) then (n,NameKind.cell) else (n,k)).lookup x=some k→∃ k0,nms.lookup x=some k0
 | [],_,_,h=>by simp at h
 | (n,k0) :: r,x,k,h=>by
  cases hx:x == n with
  | true=>exact⟨k0,by simp [List.lookup_cons,hx]⟩
  | false =>
   have h:List.lookup x ((if (k0 == NameKind.free && env.scope.kind == .function && env.kindOf n == some .cell)=true then (n,NameKind.cell) else (n,k0)) :: _)=some k:=h
   have:(r.map fun (n,k)=>if (k == NameKind.free && env.scope.kind == .function && env.kindOf n == some .cell) then (n,NameKind.cell) else (n,k)).lookup x=some k:=by
    split at h <;> (simp only [List.lookup_cons,hx] at h;exact h)
   obtain⟨k1,e⟩:=relabel_none this
   exact⟨k1,by simp only [List.lookup_cons,hx];exact e⟩
noncomputable def compScOk(sc:List (PS × NameKind))(scope:Scope)(fr:List Nat)(t:TGT):Bool:=scope.kind == .function &&
 scope.names.all (fun x=>x.2 != .cell && (x.2 != .local || scope.names.lookup x.1 == some .local) && (x.2 != .free || sc.lookup x.1 == some .cell)) &&
 fr.all (fun x=>decide (x < names.length) && scope.names.lookup (nmS x) == some .free && !(tnames t).contains x)
theorem closure_ok{scope:Scope}{env:Env}(hf:∀ x∈scope.names,x.2=.free→∃ c,env.cells.lookup x.1=some c) :
  ∃ cl,closureFor scope env=pure cl∧(∀ n c,cl.lookup n=some c→env.cells.lookup n=some c)∧∀ n,(n,NameKind.free)∈scope.names→cl.lookup n=env.cells.lookup n:=by
 have key:∀ (nms:List (PS × NameKind)) (acc:List (PS × Addr)),(∀ x∈nms,x.2=.free→∃ c,env.cells.lookup x.1=some c)→(∀ p∈acc,env.cells.lookup p.1=some p.2) →
   ∃ cl,(forIn nms acc fun x cs=>(match x with
    | (name,kind)=>if (kind == NameKind.free)=true then (do
      let c ← cellOf env name
      pure (ForInStep.yield ((name,c) :: cs)))
     else pure (ForInStep.yield cs):Sem (ForInStep (List (PS × Addr)))))=pure cl∧(∀ p∈cl,env.cells.lookup p.1=some p.2)∧(∀ p∈acc,p∈cl)∧∀ n,(n,NameKind.free)∈nms→∃ c,(n,c)∈cl:=by
  intro nms
  induction nms with
  | nil=>exact fun acc _ h=>⟨acc,rfl,h,fun _ h=>h,fun _ h=>nomatch h⟩
  | cons x r ih =>
   intro acc hn ha
   obtain⟨n,k⟩:=x
   rw [List.forIn_cons]
   by_cases hk:k=.free
   ·subst hk
    obtain⟨c,hc⟩:=hn (n,.free) (.head _) rfl
    obtain⟨cl,e1,e2,e3,e4⟩:=ih ((n,c) :: acc) (fun x hx=>hn x (.tail _ hx)) (fun p hp=>by
     rcases List.mem_cons.mp hp with rfl | hp
     ·exact hc
     ·exact ha p hp)
    refine ⟨cl,?_,e2,fun p hp=>e3 p (.tail _ hp),fun m hm=>?_⟩
    ·have hco:cellOf env n=pure c:=by unfold cellOf;rw [hc]
     simp only [beq_self_eq_true,if_true,hco]
     exact e1
    ·rcases List.mem_cons.mp hm with z | hm
     ·cases z;exact⟨c,e3 _ (.head _)⟩
     ·exact e4 m hm
   ·have hb:(k == NameKind.free)=false:=by simpa using hk
    obtain⟨cl,e1,e2,e3,e4⟩:=ih acc (fun x hx=>hn x (.tail _ hx)) ha
    refine ⟨cl,?_,e2,e3,fun m hm=>?_⟩
    ·simp only [hb,Bool.false_eq_true,if_false]
     exact e1
    ·rcases List.mem_cons.mp hm with z | hm
     ·cases z;exact absurd rfl hk
     ·exact e4 m hm
 obtain⟨cl,e1,e2,_,e4⟩:=key scope.names [] hf (fun _ h=>nomatch h)
 have sound:∀ n c,cl.lookup n=some c→env.cells.lookup n=some c:=by
  intro n c h
  have:(n,c)∈cl:=List.lookup_eq_some_iff.mp h |>.elim fun l1 ⟨l2,e,_⟩=>by rw [e];simp
  exact e2 _ this
 refine ⟨cl,by unfold closureFor;show (forIn scope.names [] _ >>= fun cs=>pure cs)=_;rw [e1];rfl,sound,fun n hn=>?_⟩
 obtain⟨c,hc⟩:=e4 n hn
 have h1:=e2 _ hc
 rw [h1]
 cases h:cl.lookup n with
 | some c'=>exact (sound n c' h).symm.trans h1
 | none=>exact absurd hc (fun z=>by have:=List.lookup_eq_none_iff.mp h _ z;simp at this)
section
variable{Z:SA}{w:World}{hd:Bool}{X:Addr→Prop}{γ γ' γ₁ γ₂:Gh}{h h':Heap}{s s' s₁ s₂:Shared}{H H':HT}{n n' N:Nat}{A:Around}{env:Env}{l l':FL}{k kx:KV}{ks ks':KS}{sc:List (PS × NameKind)}
theorem restr_spec{fr:List Nat}{kk:FL→Bool}(q:restr l fr kk=true):∃ l0,kk l0=true∧∀ y v,l0.look y=some v→y∈fr∧l.look y=some v:=by
 induction fr generalizing kk with
 | nil=>exact⟨.nil,q,fun y v e=>by cases e⟩
 | cons x r ih =>
  obtain⟨u,hu,q⟩:=optK_some (show optK (l.look x) (fun v=>restr l r fun r=>kk (.cons x v r))=true from q)
  obtain⟨l0,q0,h0⟩:=ih q
  refine ⟨_,q0,fun y v e=>?_⟩
  rw [FL.look_cons] at e
  by_cases h:x=y
  ·rw [if_pos h] at e;cases e;subst h;exact⟨.head _,hu⟩
  ·rw [if_neg h] at e
   obtain⟨a,b⟩:=h0 y v e
   exact⟨.tail _ a,b⟩
theorem lookup_mem{x:PS}{k:NameKind}:∀ {l:List (PS × NameKind)},l.lookup x=some k→(x,k)∈l
 | [],h=>by simp at h
 | (n,k0) :: r,h=>by
  cases hx:x == n with
  | true=>simp only [List.lookup_cons,hx] at h;cases h;(have:x=n:=(by simpa using hx));rw [this];exact .head _
  | false=>simp only [List.lookup_cons,hx] at h;exact .tail _ (lookup_mem h)
theorem compEnv_ok{scope:Scope}{fr:List Nat}{t:TGT}{cl:List (PS × Addr)}{C:Addr}{l0:FL}(hc:compScOk sc scope fr t=true)(ec:EnvSc env sc)(es:EnvS env)(en:EnvR Z γ h env l)
  (c2:∀ n c,cl.lookup n=some c→env.cells.lookup n=some c) (c3:∀ n,(n,NameKind.free)∈scope.names→cl.lookup n=env.cells.lookup n) (hl0:∀ y v,l0.look y=some v→y∈fr∧l.look y=some v) (hN:h.Ns C fun _=>none) (ow:γ.own C=.env) :
  EnvS (compEnvC scope cl C env)∧EnvSc (compEnvC scope cl C env) scope.names∧EnvR Z γ h (compEnvC scope cl C env) l0:=by
 simp only [compScOk,Bool.and_eq_true,beq_iff_eq,List.all_eq_true,Bool.or_eq_true,bne_iff_ne,ne_eq,decide_eq_true_eq,Bool.not_eq_true'] at hc
 obtain⟨⟨hkind,hn⟩,hf⟩:=hc
 obtain⟨m,hns,ho,hcl,hl⟩:=en
 have free:∀ x,(x,NameKind.free)∈scope.names→env.kindOf x=some .cell:=fun x hx=>by
  have:=(hn _ hx).2
  simp at this
  exact ec _ _ this (by intro z;cases z)
 refine ⟨⟨hkind,es.glob,es.blt,es.frame⟩,fun x k h1 h2=>?_,fun _=>none,hN,ow,⟨fun x c e=>?_,fun x e=>?_,fun x y c e1 e2=>hcl.inj x y c (c2 _ _ e1) (c2 _ _ e2)⟩,fun y u hy=>?_⟩
 ·show (relabel scope env).names.lookup x=some k
  have:=relabel_lookup (env:=env) h1
  unfold relabel
  rw [this]
  have:(k == NameKind.free)=false:=by simpa using h2
  simp [this]
 ·exact hcl.at_ x c (c2 _ _ e)
 ·have e:(relabel scope env).names.lookup x=some .cell:=e
  unfold relabel at e
  obtain⟨k0,h0⟩:=relabel_none e
  have:=relabel_lookup (env:=env) h0
  rw [e] at this
  have hm:=lookup_mem h0
  by_cases hk:k0=.free
  ·subst hk
   obtain⟨c,a,b⟩:=hcl.has x (free x hm)
   exact⟨c,(c3 x hm).trans a,b⟩
  ·have hb:(k0 == NameKind.free)=false:=by simpa using hk
   rw [hb] at this
   simp at this
   exact absurd this.symm (hn _ hm).1.1
 ·obtain⟨a,b⟩:=hl0 y u hy
  obtain⟨⟨f1,f2⟩,f3⟩:=hf y a
  have hm:=lookup_mem f2
  have hcell:=free _ hm
  refine ⟨f1,?_⟩
  rcases (hl y u b).2 with ⟨z,_⟩ | ⟨_,c,oc,rv,g1,g2,g3,g4⟩
  ·rw [hcell] at z;cases z
  ·refine .cel (.inl ?_) c oc rv ((c3 _ hm).trans g1) g2 g3 g4
   show (relabel scope env).names.lookup (nmS y)=some .cell
   have:=relabel_lookup (env:=env) f2
   unfold relabel
   rw [this,hcell,es.kind]
   rfl
theorem cpL_succ{melt:EM}{t:TGT}{ih:RR}{a f:Nat}{i:It}{l0:FL}:cpL melt t ih l0 a k (f + 1) i H n=nextOf i H (k (.ref a) H n) fun v i'=>bindT t v l0 fun l'=>melt ih l' H n (fun x h n=>lstAt (h.get a) fun p xs=>mLst a p xs nAppend [x] h n fun _ h n=>cpL melt t ih l0 a k f i' h n) noX:=rfl
end
section
variable{Z:SA}{w:World}{hd:Bool}{X:Addr→Prop}{γ γ' γ₁ γ₂:Gh}{h h':Heap}{s s' s₁ s₂:Shared}{H H':HT}{n n' N:Nat}{A:Around}{env:Env}{l l':FL}{k kx:KV}{ks ks':KS}{sc:List (PS × NameKind)}
theorem EnvR.sub(x:EnvR Z γ h env l)(e:∀ y v,l'.look y=some v→l.look y=some v):EnvR Z γ h env l':=by
 obtain⟨m,a,b,c,d⟩:=x
 exact⟨m,a,b,c,fun y v q=>d y v (e y v q)⟩
set_option tactic.hygienic true in
noncomputable def CompEnd(Z:SA)(w:World)(γ:Gh)(s:Shared)(k:KV)(ra:Addr)(ce:Env)(r:Result)(s':Shared):Prop:=match r with
 | .ok f=>f=.next∧∃ v H n γ' l0,k v H n=true∧Rel Z w γ' H n s'∧Kp NX γ s.heap γ' s'.heap∧VR Z γ' s'.heap v (.ref ra)∧EnvR Z γ' s'.heap ce l0∧Fro s s'
 | .error _=>False
inductive CompI(Z:SA)(w:World)(N:Nat)(hd:Bool)(A:Around)(ce:Env)(csc:List (PS × NameKind))(l0:FL)(it ra:Addr)(a:Nat)(γ₀:Gh)(s₀:Shared)(k:It→HT→Nat→Bool)(s1:Shared):Prop
 | mk (i1:It) (H1:HT) (n1:Nat) (γ1:Gh):k i1 H1 n1=true→Pre Z w N hd A ce csc l0 H1 n1 γ1 s1→Kp NX γ₀ s₀.heap γ1 s1.heap→Fro s₀ s1→γ1.own it=.it→γ1.own ra=.obj a 0→ItR Z γ1 s1.heap i1 it→CompI Z w N hd A ce csc l0 it ra a γ₀ s₀ k s1
theorem compLoop_ok{melt:EM}{t:TGT}{eltE target iterE:PX}{scope:Scope}{pos:Pos}{ce:Env}{csc:List (PS × NameKind)}{s₀:Shared}{γ₀:Gh}{i:It}{it ra:Addr}{a:Nat}{l0:FL}{f:Nat}
  (T:TgtE csc t target) (y:SndE Z w csc melt eltE) (hcs:∀ y c,csc.lookup y=some .cell→ce.cells.lookup y=some c→c=ce.locals) (hfr:∀ y v,l0.look y=some v→y∉tnames t) (P:Pre Z w N hd A ce csc l0 H n γ s) (K₀:Kp NX γ₀ s₀.heap γ s.heap) (F₀:Fro s₀ s)
  (ow:γ.own it=.it) (hit:s₀.heap.objs.size≤it) (hC:s₀.heap.objs.size≤ce.locals) (oa:γ.own ra=.obj a 0) (ir:ItR Z γ s.heap i it) (q:cpL melt t (mk fnT FDeed N hd) l0 a k f i H n=true) :
  codeAny (model prog w) A (.compLoop (.ListComp eltE [⟨target,iterE,[],0⟩] scope pos) 0 (.ref it) (.ref ra) ce) (CompEnd Z w γ₀ s₀ k ra ce) s:=by
 refine compLoop_gen (fun m s1=>CompI Z w N hd A ce csc l0 it ra a γ₀ s₀ (cpL melt t (mk fnT FDeed N hd) l0 a k m) s1) (fun m s1 I1=>?_) f
  ⟨i,H,n,γ,q,P,K₀,F₀,ow,oa,ir⟩
 obtain⟨i1,H1,n1,γ1,q1,P1,K1,F1,ow1,oa1,ir1⟩:=I1
 cases m with
 | zero=>cases q1
 | succ m =>
  rw [cpL_succ] at q1
  refine wpAny_mono (next_ok P1.hd P1.r ir1 ow1 q1) (fun r s2 z=>?_) fun _ _ z=>z
  obtain⟨S2,z⟩:=z
  have P2:=P1.smI S2 (fun b hb=>by rw [hb];exact ow1)
  have K2:Kp NX γ₀ s₀.heap γ1 s2.heap:=((K1.nx (X:=fun b=>b=it)).trans S2.K).widen fun b hb=>.inr (by rw [hb];exact hit)
  have F2:=F1.trans S2.fro
  cases r with
  | none=>exact⟨rfl,_,H1,n1,γ1,l0,z,P2.r,K2,.ref oa1,P2.e,F2⟩
  | some rv =>
   obtain⟨v,i',q2,vr,ir2⟩:=z
   have q2:bindT t v l0 (fun l'=>melt (mk fnT FDeed N hd) l' H1 n1 (fun x h n=>lstAt (h.get a) fun p xs=>mLst a p xs nAppend [x] h n fun _ h n=>cpL melt t (mk fnT FDeed N hd) l0 a k m i' h n) noX)=true:=q2
   obtain⟨l1,e1,e2⟩:=bindT_eq q2
   rw [e1] at q2
   refine letGo_ok T ir2 ?_
   have qq:bindT t v l0 (fun z=>@decide (z=l1) (Classical.propDecidable _))=true:=by rw [e1];simp
   refine wpAny_mono (assign_okX (X:=fun b=>b=ce.locals) rfl hcs T P2.es P2.ec P2.hd P2.r P2.e vr qq) (fun _ s3 z=>?_) fun _ _ z=>z
   obtain⟨l1',q3,R3,K3,en3,F3⟩:=z
   obtain rfl:l1'=l1:=by simpa using q3
   have P3:=P2.goS (K3.xs fun b hb=>.inl hb) R3 en3
   have K23:Kp NX γ₀ s₀.heap γ1 s3.heap:=((K2.nx (X:=fun b=>b=ce.locals)).trans K3).widen fun b hb=>.inr (by rw [hb];exact hC)
   have ir3:=ir2.mono K3 P2.r.bnd ow1 (fun z=>by
    obtain⟨_,_,o,_⟩:=P2.e
    rw [← z,ow1] at o;cases o)
   refine wpAny_mono (y N hd A ce l1' H1 n1 _ noX γ1 s3 P3 q2) (fun x s4 z=>?_) fun e s4 z=>?_
   ·obtain⟨vx,H4,n4,γ4,q4,R4,K4,vr4,F4⟩:=z
    have P4:=P3.go K4 R4
    have oa4:γ4.own ra=.obj a 0:=(K4.own ra (P3.r.bnd _ (by rw [oa1];exact Ow.noConfusion))).trans oa1
    have ow4:γ4.own it=.it:=(K4.own it (P3.r.bnd _ (by rw [ow1];exact Ow.noConfusion))).trans ow1
    have ir4:=ir3.mono K4 P3.r.bnd ow1 (fun z=>z)
    obtain⟨p5,xs5,e5,q5⟩:=lstAt_spec q4
    refine wpAny_mono ((mLst_ok (A:=A) (E:=notedBy (model prog w) A ce fun e s'=>CompEnd Z w γ₀ s₀ k ra ce (.error e) s') R4 e5 oa4 (.cons vr4 .nil) q5).1 rfl) (fun _ s5 z=>?_) fun _ _ z=>z
    obtain⟨v5,H5,n5,γ5,q6,R5,K5,_,F5⟩:=z
    have P5:=P4.go K5 R5
    have en5:EnvR Z γ5 s5.heap ce l0:=P5.e.sub fun y u hy=>by rw [e2 y (hfr y u hy)];exact hy
    exact⟨m,Nat.lt_succ_self m,i',H5,n5,γ5,q6,⟨P5.C,P5.a,P5.hd,P5.es,P5.ec,P5.f,P5.r,en5⟩,K23.trans (K4.trans K5),F2.trans (F3.trans (F4.trans F5)),(K5.own it (R4.bnd _ (by rw [ow4];exact Ow.noConfusion))).trans ow4,(K5.own ra (R4.bnd _ (by rw [oa4];exact Ow.noConfusion))).trans oa4,ir4.mono K5 R4.bnd ow4 (fun z=>z)⟩
   ·obtain⟨_,_,_,_,q4,_⟩:=z
    cases q4
end
section
variable{Z:SA}{w:World}{hd:Bool}{X:Addr→Prop}{γ γ' γ₁ γ₂:Gh}{h h':Heap}{s s' s₁ s₂:Shared}{H H':HT}{n n' N:Nat}{A:Around}{env:Env}{l l':FL}{k kx:KV}{ks ks':KS}{sc:List (PS × NameKind)}
theorem comp_any{mi melt:EM}{t:TGT}{fr:List Nat}{eltE target iterE:PX}{scope:Scope}{pos pos':Pos}{use:Option (Value→Sem Unit)}{Q E:Value→Shared→Prop}
  (T:TgtE scope.names t target) (x:SndE Z w sc mi iterE) (y:SndE Z w scope.names melt eltE) (hc:compScOk sc scope fr t=true) (hs:∀ env x,foldedSetIterable iterE env x=pure x) (P:Pre Z w N hd A env sc l H n γ s)
  (q:mi (mk fnT FDeed N hd) l H n (fun v h n=>iteratorOf v h fun i=>restr l fr fun l0=>newO (.lst 0 []) h n fun _ h' n'=>cpL melt t (mk fnT FDeed N hd) l0 n k 60 i h' n') kx=true) (hE:∀ e s',PostX Z w NX γ s kx e s'→E e s')
  (fin:∀ ra C r sx ce,s.heap.objs.size≤C→ce.locals=C→CompEnd Z w γ s k ra ce r sx→compPost (model prog w) A E use Q (.ref ra) C r sx) :
  wpAny (model prog w) A (comprehension (.ListComp eltE [⟨target,iterE,[],0⟩] scope pos) scope env pos' (newList []) false (eval iterE env) use) Q E s:=by
 have hc':=hc
 simp only [compScOk,Bool.and_eq_true,beq_iff_eq,List.all_eq_true,Bool.or_eq_true,bne_iff_ne,ne_eq,decide_eq_true_eq,Bool.not_eq_true'] at hc'
 obtain⟨⟨hkind,hn⟩,hf⟩:=hc'
 have hcell:∀ x∈scope.names,x.2≠.cell:=fun x hx=>(hn x hx).1.1
 have hnames:∀ x∈scope.names,x.2=.local→scope.names.lookup x.1=some .local:=fun x hx e=>by
  have:=(hn x hx).1.2
  rw [e] at this
  simpa using this
 obtain⟨cl,c1,c2,c3⟩:=closure_ok (scope:=scope) (env:=env) fun x hx e=>by
  have:=(hn x hx).2
  rw [e] at this
  simp at this
  obtain⟨m,_,_,hcl,_⟩:=P.e
  obtain⟨c,a,_⟩:=hcl.has x.1 (P.ec _ _ this (by intro z;cases z))
  exact⟨c,a⟩
 refine wpAny_comprehension_free (use:=use) rfl (hs env) c1 hkind hnames ?_
 show wpAny (model prog w) A (eval iterE env) _ _ _
 refine wpAny_mono (x.at P q) (fun rv s1 z=>?_) fun _ _ z=>hE _ _ z
 obtain⟨v,H1,n1,γ1,q1,R1,K1,vr,F1⟩:=z
 have P1:=P.go K1 R1
 refine wpAny_mono (iter_ok P1 q1 vr) (fun itv s2 z=>?_) fun _ _ z=>z
 obtain⟨i,it,γ2,rfl,q2,S2,ow2,le2,ir2⟩:=z
 obtain⟨l0,q2,hl0⟩:=restr_spec q2
 obtain⟨H3,q3,hH3⟩:=newO_spec q2
 have R2:=R1.sm S2
 refine wpAny_newObj_type ?_
 have R3:=R2.new1 (ro:={ cls:=.type "list",data:=.seq ([]:List Value).toArray }) hH3 (Nat.le_refl s2.toks) fun o=>⟨_,[],[],0,o,Heap.get?_push_size _ rfl,by unfold PreR;rw [if_pos rfl],.nil,by simp,by simp⟩
 have K3:Kp NX γ2 s2.heap (γ2.take s2.heap.objs.size (.obj n1 0)) (s2.heap.push { cls:=.type "list",data:=.seq ([]:List Value).toArray }):=(Kp.push _).take _ (Nat.le_refl _) (by rw [R2.freshFree (Nat.le_refl _)];exact Ow.noConfusion)
 refine wpAny_newFunctionEnv hcell (by intro y hy;simp at hy) (fun h4 hns hsb=>?_) hkind
 generalize hs3:s2.heap.push { cls:=.type "list",data:=.seq ([]:List Value).toArray }=h3 at R3 K3 hns hsb ⊢
 have it2:it < s2.heap.objs.size:=R2.bnd it (by rw [ow2];exact Ow.noConfusion)
 have sz3:h3.objs.size=s2.heap.objs.size + 1:=by rw [← hs3,Heap.size_push]
 have ow3:(γ2.take s2.heap.objs.size (.obj n1 0)).own it=.it:=(Gh.take_ne _ _ (Nat.ne_of_lt it2)).trans ow2
 have oa3:(γ2.take s2.heap.objs.size (.obj n1 0)).own s2.heap.objs.size=.obj n1 0:=Gh.take_self ..
 generalize hg3:γ2.take s2.heap.objs.size (.obj n1 0)=γ3 at R3 K3 ow3 oa3
 have S4:=Sm.pushO R3 { cls:=.type (if (some env).isSome then "dict" else "frame"),data:=.dict #[] } .env (fun _ _=>Ow.noConfusion)
 have R4:=R3.sm S4
 have oC:(γ3.take h3.objs.size .env).own h3.objs.size=.env:=Gh.take_self ..
 have K4:Kp (fun b=>b=h3.objs.size) (γ3.take h3.objs.size .env) _ (γ3.take h3.objs.size .env) h4:=.butX oC rfl hsb
 have R5:=R4.butX oC hsb (Nat.le_refl _)
 have sz1:s.heap.objs.size≤s2.heap.objs.size:=Nat.le_trans K1.size S2.K.size
 have K13:Kp NX γ s.heap γ3 h3:=K1.trans (S2.K.trans K3)
 have Kt:Kp NX γ s.heap (γ3.take h3.objs.size .env) h4:=(((K13.trans S4.K).nx (X:=fun b=>b=h3.objs.size)).trans K4).widen fun b hb=>.inr (by rw [hb,sz3];omega)
 have F4:Fro s { s2 with heap:=h4 }:=(F1.trans S2.fro).hq
 have neC:it≠h3.objs.size:=by rw [sz3];exact Nat.ne_of_lt (Nat.lt_succ_of_lt it2)
 have ow4:(γ3.take h3.objs.size .env).own it=.it:=(Gh.take_ne _ _ neC).trans ow3
 have oa4:(γ3.take h3.objs.size .env).own s2.heap.objs.size=.obj n1 0:=(Gh.take_ne _ _ (by rw [sz3];exact Nat.ne_of_lt (Nat.lt_succ_self _))).trans oa3
 have ir3:=ir2.mono K3 R2.bnd ow2 (fun z=>z)
 have ir4:=(ir3.mono S4.K R3.bnd ow3 (fun z=>z)).mono K4 R4.bnd ow4 neC
 have en4:=P.e.mono Kt P.r.bnd
 obtain⟨es5,ec5,en5⟩:=compEnv_ok (C:=h3.objs.size) hc P.ec P.es en4 c2 c3 hl0 (by simpa using hns) oC
 have P5:Pre Z w N hd A (compEnvC scope cl h3.objs.size env) scope.names l0 H3 (n1 + 1) (γ3.take h3.objs.size .env) { s2 with heap:=h4 }:=by
  refine ⟨P.C,P.a,P.hd.mono Kt,es5,ec5,?_,R5,en5⟩
  obtain⟨fe,outer,a,b,c,d⟩:=P.f.mono Kt P.r.bnd
  exact⟨fe,outer,a,b,c,d⟩
 have loop:=compLoop_ok (iterE:=iterE) (scope:=scope) (pos:=pos) (s₀:=s) (γ₀:=γ) (k:=k) (f:=60) T y (fun z c e _=>absurd rfl (hcell _ (lookup_mem e))) (fun z u hz=>?_) P5 Kt F4 ow4 (Nat.le_trans (Nat.le_trans K1.size le2) (Nat.le_refl _)) (by show s.heap.objs.size≤h3.objs.size;rw [sz3];omega) oa4 ir4 q3
 ·have fin':∀ {r:Result} {sx:Shared},CompEnd Z w γ s k s2.heap.objs.size (compEnvC scope cl h3.objs.size env) r sx→compPost (model prog w) A E use Q (.ref s2.heap.objs.size) h3.objs.size r sx:=fun z=>fin _ _ _ _ _ (by rw [sz3];omega) rfl z
  refine codeAny_compStart_list (codeAny_mono loop fun r sx z=>fin' z) (ir4.self (codeAny_mono loop fun r sx z=>fin' z))
 ·have:=(hf z (hl0 z u hz).1).2
  simpa using this
theorem sE_comp{mi melt:EM}{t:TGT}{fr:List Nat}{eltE target iterE:PX}{scope:Scope}{pos:Pos}
  (T:TgtE scope.names t target) (x:SndE Z w sc mi iterE) (y:SndE Z w scope.names melt eltE) (hc:compScOk sc scope fr t=true) (hs:∀ env x,foldedSetIterable iterE env x=pure x) :
  SndE Z w sc (eComp melt t mi fr) (.ListComp eltE [⟨target,iterE,[],0⟩] scope pos):=sndE fun N hd A env l H n k kx γ s P q=>by
 rw [eval_ListComp]
 refine comp_any (use:=none) T x y hc hs P q (fun _ _ z=>z) fun ra C r sx ce lC hC z=>?_
 cases r with
 | error e=>exact z.elim
 | ok f =>
  obtain⟨_,v6,H6,n6,γ6,l6,q6,R6,K6,vr6,en6,F6⟩:=z
  obtain⟨m6,hn6,ho6,_⟩:=en6
  rw [hC] at hn6 ho6
  refine ⟨m6,hn6,fun h' hs'=>?_⟩
  have K7:Kp (fun b=>b=C) γ6 sx.heap γ6 h':=.butX ho6 rfl hs'
  exact⟨v6,H6,n6,γ6,q6,R6.butX ho6 hs' (Nat.le_refl _),((K6.nx (X:=fun b=>b=C)).trans K7).widen fun b hb=>.inr (by rw [hb];exact lC),vr6.mono K7 R6.bnd,F6.hq⟩
end
end Mine
end
section
open PySem renaming Expr→PX,Str→PS
open PySem PySem.W PySem.Calls PyProof.Rows PySem.SeqAt Builtin Builtin.ObjectAttr
namespace Mine
noncomputable def MkExc(Z:SA)(w:World):Prop:=∀ (c:Nat) (cd:CD) (x1 x2:Nat),clT.get c=some cd→cd.kind=2→cd.fields=[x1,x2]→∀ (A:Around) (s:Shared) (Q E:Value→Shared→Prop) (r1 r2:Value),A.depth + 5 < recursionLimit→A.units + 60 < cLine →
 (Z.K w.params).In s.heap→s.heap.NoLimit→(∀ h' tk e d (m:PS→Option Value) a0,(∀ b o,s.heap.get? b=some o→h'.get? b=some o)→s.heap.objs.size≤h'.objs.size→s.heap.objs.size≤e→s.heap.objs.size≤d→d≠e→s.toks≤tk →
  h'.get? e=some ⟨.ref (Z.clA c),some d,.fields #[a0,.none,.none,.none,.bool false,.none],#[]⟩→h'.Ns d m→m (nmS x1)=some r1→m (nmS x2)=some r2→Q (.ref e) { s with heap:=h',toks:=tk }) →
 wpAny (model prog w) A (PySem.call (.ref (Z.clA c)) [r1,r2]) Q E s
section
variable{Z:SA}{w:World}{hd:Bool}{X:Addr→Prop}{γ γ' γ₁ γ₂:Gh}{h h':Heap}{s s' s₁ s₂:Shared}{H H':HT}{n n' N:Nat}{A:Around}{env:Env}{l l':FL}{k kx:KV}{ks ks':KS}{sc:List (PS × NameKind)}
set_option tactic.hygienic true in
theorem ChainOk.lower{e c:Addr}(hs:Heap.SameBut e h h')(x:ChainOk γ h c):c < e→ChainOk γ h' c:=by
 induction x with
 | last g d f q=>exact fun lt=>.last ((hs.2 _ (Nat.ne_of_lt lt)).trans g) d f q
 | next g d f q l _ ih=>exact fun lt=>.next ((hs.2 _ (Nat.ne_of_lt lt)).trans g) d f q l (ih (Nat.lt_trans l lt))
theorem Sm.moreE(R:Rel Z w γ H n s)(keep:∀ b o,s.heap.get? b=some o→h'.get? b=some o)(hz:s.heap.objs.size≤h'.objs.size){e:Addr}(le:s.heap.objs.size≤e)(lt:e < h'.objs.size){t:Nat}(ht:s.toks≤t):Sm γ s (γ.take e .exn) { s with heap:=h',toks:=t }:=by
 refine ⟨(Kp.more keep hz).take _ le (by rw [R.freshFree le];exact Ow.noConfusion),⟨rfl,rfl⟩,fun b i p q=>?_,fun b i p=>?_,fun b q=>?_,rfl,rfl,⟨rfl,rfl,rfl⟩,ht⟩
 ·obtain⟨o,g⟩:=R.there q
  rw [g];exact keep _ _ g
 ·by_cases q:b=e
  ·subst q;rw [Gh.take_self,R.freshFree le]
   constructor <;> (intro z;cases z)
  ·rw [Gh.take_ne _ _ q]
 ·by_cases z:b=e
  ·rw [z];exact lt
  ·rw [Gh.take_ne _ _ z] at q;exact Nat.lt_of_lt_of_le (R.bnd b q) hz
theorem Sm.ctx(R:Rel Z w γ H n s){e:Addr}{o:Obj}{ovs ovs':Array Value}(ow:γ.own e=.exn)(g:s.heap.get? e=some o)(d:o.data=.fields ovs)(g':h'.get? e=some { o with data:=.fields ovs' })(hs:Heap.SameBut e s.heap h')(hz:ovs'.size=ovs.size)
  (h1:ovs'[1]?=ovs[1]?) (q:ovs'[2]?=ovs[2]?∨(ovs[2]?=some .none∧CtxOk γ h' e ovs')):Sm γ s γ { s with heap:=h' }:=by
 have ne:∀ b,γ.own b≠.exn→b≠e:=fun b q z=>q (by rw [z];exact ow)
 refine ⟨⟨Nat.le_of_eq hs.1.symm,fun _ _=>rfl,fun b o e f=>(hs.2 b (ne b (by rw [f];exact Ow.noConfusion))).trans e,fun b o e f _=>⟨o.slots,(hs.2 b (ne b (by rw [f];exact Ow.noConfusion))).trans e⟩,fun b o e f _=>(hs.2 b (ne b (by rw [f];exact Ow.noConfusion))).trans e,fun b ob fs' e1 f d'=>?_,fun _ _ e=>⟨e,rfl⟩,fun _ _ e=>e,fun _ _=>rfl,rfl,fun _ e=>e⟩,
  ⟨rfl,rfl⟩,fun b i p e=>hs.2 b (ne b (by rw [e];exact Ow.noConfusion)),fun _ _ _=>Iff.rfl,fun b q=>?_,rfl,rfl,⟨rfl,rfl,rfl⟩,Nat.le_refl _⟩
 ·by_cases z:b=e
  ·subst z
   rw [g] at e1;cases e1
   rw [d] at d';cases d'
   exact⟨ovs',g',hz,q,fun⟨T,oT,ts,u1,u2,u3,u4,u5,u6⟩=>⟨T,oT,ts,h1.trans u1,u2,u3,(hs.2 T u3).trans u4,u5,u6⟩⟩
  ·refine .same ((hs.2 b z).trans e1) d' fun⟨T,oT,ts,u1,u2,u3,u4,u5,u6⟩=>?_
   by_cases hT:T=e
   ·subst hT
    rw [g] at u4;cases u4
    rw [d] at u5;cases u5
    exact⟨T,_,_,u1,u2,u3,g',rfl,by rw [hz];exact u6⟩
   ·exact⟨T,oT,ts,u1,u2,u3,(hs.2 T hT).trans u4,u5,u6⟩
 ·show b < h'.objs.size
  rw [hs.1];exact R.bnd b q
end
section
variable{w:World}{A:Around}{s:Shared}{env:Env}
theorem raiseStmt_of{K:Frag}{x:Sem Value}{Q:Flow→Shared→Prop}{E:Value→Shared→Prop}
  (h:wpAny (model prog w) A x (fun v s1=>∃ e C d ovs,v=.ref e∧K.In s1.heap∧s1.heap.get? e=some ⟨.ref C,some d,.fields ovs,#[]⟩∧ovs[1]?=some .none∧typeIn K (.ref C)=some (.type "type")∧mroIn K C (.type "BaseException")=some true ∧
   wpAny (model prog w) A (raiseNew (.ref e):Sem Flow) Q E s1) E s):wpAny (model prog w) A (raiseStmt env (some x) none) Q E s:=by
 unfold raiseStmt
 refine wpAny_bind (wpAny_mono h (fun v s1 z=>?_) fun _ _ z=>z)
 obtain⟨e,C,d,ovs,rfl,st,g,h1,t1,m1,hr⟩:=z
 obtain⟨hp,gg,dd,tk,os⟩:=s1
 have L0:Looks (model prog w) hp (typeOf (.ref e)) (.ref C):=(Looks.ld g).andThen .now
 have L1:=looks_typeIn (M:=model prog w) st t1
 have L2:Looks (model prog w) hp (isInstance (.ref e) (.type "BaseException")) true:=L0.andThen (looks_mroIn st m1)
 have L3:Looks (model prog w) hp (PySem.isType (.ref e)) false:=(Looks.ld g).andThen .now
 refine wpAny_bind (wpAny_pure (wpAny_bind (wpAny_holding ?_)))
 unfold excFromValue isExcClass
 refine wpAny_bind (wpAny_bind (L3.at ?_))
 rw [if_neg Bool.false_ne_true]
 refine wpAny_pure ?_
 rw [if_neg Bool.false_ne_true]
 refine wpAny_bind (L2.at ?_)
 rw [if_pos rfl]
 refine wpAny_pure ?_
 dsimp only
 refine wpAny_bind (L3.at ?_)
 rw [if_neg Bool.false_ne_true]
 unfold raisedInstance
 refine wpAny_bind (wpAny_bind (L0.at (wpAny_bind (L1.at ?_))))
 rw [if_pos (by simp)]
 refine wpAny_pure ?_
 unfold setFlight
 refine wpAny_bind (wpAny_bind (wpAny_field g rfl h1 ?_))
 rw [if_neg (by decide)]
 exact wpAny_pure hr
end
section
variable{Z:SA}{w:World}{hd:Bool}{X:Addr→Prop}{γ γ' γ₁ γ₂:Gh}{h h':Heap}{s s' s₁ s₂:Shared}{H H':HT}{n n' N:Nat}{A:Around}{env:Env}{l l':FL}{k kx:KV}{ks ks':KS}{sc:List (PS × NameKind)}
set_option tactic.hygienic true in
theorem sS_raise(O:KA Z w)(M:MkExc Z w){c x1 x2:Nat}{cd:CD}{ms:EMs}{e:PX}{es:List PX}{p p':Pos}(hcd:clT.get c=some cd)(hk:cd.kind=2)(hf:cd.fields=[x1,x2])(g:SndE Z w sc (Xg (.a (.cls c))) e)(ys:SndEs Z w sc ms es)
  (he:∀ env,eval (.Call e es [] p') env=(do callWith p' (← eval e env) [] (backTo p' (starEach es env)) (backToKw p' (keywordEach [] env)))):SndS1 Z w sc (sRaise c ms) (.Raise (some (.Call e es [] p')) none p):=fun N hd A env l H n ks γ s P q=>by
 rw [arm_exec_Raise]
 refine wpAny_bind (wpAny_standAt ?_)
 show wpAny (model prog w) A (raiseStmt env (some (do let v ← eval (.Call e es [] p') env;standAt p;pure v)) none) _ _ _
 refine raiseStmt_of (K:=Z.K w.params) (wpAny_bind ?_)
 have q:ms (mk fnT FDeed N hd) l H n (fun vs h n=>match vs with | [x,y]=>ks.xc (.exc c [x,y]) l h n | _=>false) (fun e h n=>ks.xc e l h n)=true:=q
 refine Call_ (wpAny_mono (g.glo P) (fun rf s1 z=>?_) fun _ _ z=>z) (he env)
 obtain⟨γ1,R1,K1,vr,F1⟩:=z
 obtain rfl:rf=.ref (Z.clA c):=vr
 have P1:=P.go K1 R1
 have keep:KeepJ w s1.heap (.ref (Z.clA c)):=keeps_K (O.cks c cd hcd) _ R1.st
 have E0:=O.exc _ _ hcd hk
 unfold excOk at E0
 simp only [Bool.and_eq_true,beq_iff_eq,List.all_eq_true] at E0
 obtain⟨⟨⟨⟨⟨_,_⟩,_⟩,e4⟩,e6⟩,_⟩:=E0
 refine callWith_of (P:=fun h=>KeepJ w h (.ref (Z.clA c))) (by rw [ys.1 env p'];rfl) (fun h x=>x) (evalArgs_spliced (ys.1 env p') ?_)
 refine wpAny_mono (ys.2 N hd A env l H n _ _ γ1 s1 p' P1 q) (fun rvs s2 z=>?_) fun e s' z=>(z.toE P1).up K1.nx F1
 obtain⟨vs,H2,n2,γ2,q2,R2,K2,vrs,_,F2⟩:=z
 have P2:=P1.go K2 R2
 refine ⟨keeps_K (O.cks c cd hcd) _ R2.st,?_⟩
 match vs,q2,vrs with
 | [u1,u2],q2,vrs =>
  obtain⟨r1,r2,rfl,v1,v2⟩:=vrs2 vrs
  refine M c cd x1 x2 hcd hk hf A s2 _ _ r1 r2 (Nat.lt_of_le_of_lt (Nat.add_le_add_right (Nat.le_trans (Nat.le_add_right _ _) P2.a.depth) 5) (by decide)) P2.a.u R2.st R2.lim fun h' tk e d m a0 k1 k2 k3 k4 k5 k6 g1 g2 m1 m2=>?_
  have S:=Sm.moreE R2 k1 k2 k3 (Heap.lt_size g1) k6
  have P3:=P2.sm S
  have od:(γ2.take e .exn).own d=.free:=(Gh.take_ne _ _ k5).trans (R2.freshFree k4)
  refine wpAny_bind (wpAny_standAt (wpAny_pure ⟨e,Z.clA c,d,_,rfl,P3.r.st,g1,rfl,e6,e4,?_⟩))
  have hlt:∀ x,A.handled=some (.ref x)→x < e:=fun x hx=>by
   rcases P2.hd.2 with z | ⟨y,hy,ch⟩
   ·rw [z] at hx;cases hx
   ·rw [hy] at hx;cases hx
    refine Nat.lt_of_lt_of_le ?_ k3
    cases ch with | last g _ _ _=>exact Heap.lt_size g | next g _ _ _ _ _=>exact Heap.lt_size g
  refine raiseNew_ok (s:={ s2 with heap:=h',toks:=tk }) P3.hd g1 rfl (by simp) hlt fun h'' ovs' hs g' hq=>?_
  have hz:ovs'.size=6:=by rcases hq with ⟨rfl,_⟩ | ⟨x,_,_,rfl⟩ <;> simp
  have h1:ovs'[1]?=some .none:=by rcases hq with ⟨rfl,_⟩ | ⟨x,_,_,rfl⟩ <;> simp
  have S2:Sm (γ2.take e .exn) { s2 with heap:=h',toks:=tk } (γ2.take e .exn) { s2 with heap:=h'',toks:=tk }:=Sm.ctx P3.r (Gh.take_self ..) g1 rfl g' hs hz (by rw [h1];rfl) (by
   rcases hq with ⟨rfl,_⟩ | ⟨x,hx,ch,rfl⟩
   ·exact .inl rfl
   ·exact .inr ⟨rfl,x,by simp,hlt x hx,ch.lower hs (hlt x hx)⟩)
  have P4:=P3.sm S2
  have K23:=S.K.trans S2.K
  refine PostE.up K1.nx F1 (PostE.up K2.nx F2 ⟨.exc c [u1,u2],l,H2,n2,_,q2,P4.r,K23.nx,P4.e,⟨e,ovs',rfl,⟨cd,d,m,[r1,r2],hcd,hk,g',Gh.take_self ..,od,?_,.cons (v1.mono K23 R2.bnd) (.cons (v2.mono K23 R2.bnd) .nil),by rw [hf];simp [m1,m2],hz,?_⟩,.inl h1⟩,rfl,rfl,rfl⟩)
  ·exact S2.K.ns g2 od
  ·rcases hq with ⟨rfl,_⟩ | ⟨x,hx,ch,rfl⟩
   ·exact .inl rfl
   ·exact .inr ⟨x,by simp,hlt x hx,ch.lower hs (hlt x hx)⟩
 | [],q2,_=>exact ff q2
 | [_],q2,_=>exact ff q2
 | _ :: _ :: _ :: _,q2,_=>exact ff q2
end
structure KB(Z:SA)(w:World):Prop extends KA Z w where
 anc:∀ c cd d,clT.get c=some cd→(clT.get d).isSome=true→mroIn (Z.K w.params) (Z.clA c) (.ref (Z.clA d))=some (memN cd.anc d)
theorem mk_hand{N:Nat}{hd:Bool}:(mk fnT FDeed N hd).hand=mk fnT FDeed N true:=by cases N <;> rfl
section
variable{Z:SA}{w:World}{hd:Bool}{X:Addr→Prop}{γ γ' γ₁ γ₂:Gh}{h h':Heap}{s s' s₁ s₂:Shared}{H H':HT}{n n' N:Nat}{A:Around}{env:Env}{l l':FL}{k kx:KV}{ks ks':KS}{sc:List (PS × NameKind)}
set_option tactic.hygienic true in
theorem FlyD.chain{e:Addr}{v:V}{ovs:Array Value}(x:FlyD Z γ h v e ovs):ChainOk γ h e:=by
 cases v with
 | exc c fs =>
  obtain⟨cd,d,m,rvs,h1,h2,h3,h4,h5,h6,h7,h8,h9,h10⟩:=x
  rcases h10 with q | ⟨c,q,lt,ch⟩
  ·exact .last h3 rfl h4 q
  ·exact .next h3 rfl h4 q lt ch
 | _=>exact x.elim
theorem FlyD.vr{e:Addr}{v:V}{ovs:Array Value}(x:FlyD Z γ h v e ovs):VR Z γ h v (.ref e):=by
 cases v with
 | exc c fs =>
  obtain⟨cd,d,m,rvs,h1,h2,h3,h4,h5,h6,h7,h8,h9,h10⟩:=x
  exact .exc h1 h2 h3 h4 h5 h6 h7 h8
 | _=>exact x.elim
theorem FlyD.kp{e:Addr}{v:V}{ovs:Array Value}{ok:Value→Prop}(K:Kp X γ h γ' h')(bnd:∀ b,γ.own b≠.free→b < h.objs.size)(x:FlyD Z γ h v e ovs)(ft:FlyT γ h e ovs ok) :
  ∃ ovs',FlyD Z γ' h' v e ovs'∧FlyT γ' h' e ovs' (fun _=>True):=by
 obtain⟨T,oT,ts,fl,t1,t2,t3,t4,t5,t6,t7⟩:=ft
 cases v with
 | exc c fs =>
  obtain⟨cd,d,m,rvs,h1,h2,h3,h4,h5,h6,h7,h8,h9,h10⟩:=x
  obtain⟨fs',g,z,q,tb⟩:=K.exn _ _ _ h3 h4 rfl
  obtain⟨T',oT',ts',u1,u2,u3,u4,u5,u6⟩:=tb ⟨T,oT,ts,t1,t2,t3,t4,t5,(Array.getElem?_eq_some_iff.mp t6).1⟩
  refine ⟨fs',⟨cd,d,m,rvs,h1,h2,g,(K.own _ (Heap.lt_size h3)).trans h4,by obtain⟨od,_,_,g,_⟩:=h6;exact K.ownFree g h5,K.ns h6 h5,h7.mono K bnd,h8,z.trans h9,?_⟩,T',oT',ts',ts'[3],u1,u2,u3,u4,u5,by simp,trivial⟩
  rcases q with q | ⟨_,⟨c,q2,q3,q4⟩⟩
  ·exact h10.imp q.trans fun⟨c,a,b,d⟩=>⟨c,q.trans a,b,d.mono K⟩
  ·exact .inr ⟨c,q2,q3,q4⟩
 | _=>exact x.elim
theorem Pre.mark(P:Pre Z w N hd A env sc l H n γ s){e:Addr}(ch:ChainOk γ s.heap e):Pre Z w N true (A.mark (some (.ref e))) env sc l H n γ s :=
 ⟨P.C,⟨P.a.depth,P.a.units⟩,⟨(fun z=>nomatch z),.inr ⟨e,rfl,ch⟩⟩,P.es,P.ec,P.f.fr (A:=A) rfl,P.r,P.e⟩
theorem notedBy_mono{A₁:Around}{E E':Value→Shared→Prop}{e:Value}(x:notedBy (model prog w) A₁ env (cameBackBy (model prog w) A env E) e s)(f:∀ e s,E e s→E' e s):notedBy (model prog w) A₁ env (cameBackBy (model prog w) A env E') e s :=
 wpAny_mono x (fun _ _ z=>wpAny_mono z (fun _ _ z=>f _ _ z) fun _ _ z=>f _ _ z) fun _ _ z=>wpAny_mono z (fun _ _ z=>f _ _ z) fun _ _ z=>f _ _ z
theorem exc_back2{hd₁:Bool}{A₁:Around}(P:Pre Z w N hd A env sc l H n γ s)(P₁:Pre Z w N hd₁ A₁ env sc l H n γ s){e:Value}{s':Shared}(z:PostE Z w env γ s ks e s'):notedBy (model prog w) A₁ env (fun e s'=>cameBackBy (model prog w) A env (PostE Z w env γ s ks) e s') e s':=by
 obtain⟨v,l',H',n',γ',a,R,K,en,fl,F⟩:=z
 have P':=P.goS K R en
 have P₁':=P₁.goS K R en
 unfold notedBy
 refine noteFrame_ok P₁' fl fun γ1 s1 e' L he hL S1 fn=>?_
 subst he
 obtain⟨ovs,fd,ft⟩:=fn
 have P1:=P'.sm S1
 unfold cameBackBy
 obtain⟨c,fs,o,rfl,g0,d,ow,hz⟩:=fd.get
 obtain⟨T,oT,ts,fl',t1,t2,t3,t4,t5,t6,t7⟩:=id ft
 refine wpAny_bind (wpAny_field g0 d t1 ?_)
 rw [if_neg (by simp)]
 rw [hL]
 refine setFlight_ok (ok':=(·=rawInt L)) P1 fd ft rfl fun s2 S2 fd2 ft2=>?_
 have S:=S1.trans S2
 obtain⟨T2,oT2,ts2,fl2,u1,u2,u3,u4,u5,u6,u7⟩:=ft2
 exact⟨_,l',H',n',γ1,a,P1.r.sm S2,K.trans S.K.nx,(P1.sm S2).e,⟨e',ovs,rfl,fd2,.inr ⟨T2,oT2,ts2,fl2,u1,u2,u3,u4,u5,u6,.inr ⟨L,hL,u7⟩⟩⟩,F.trans S.fro⟩
theorem passOn_ok{α:Type}{what:String}{Q:α→Shared→Prop}{E:Value→Shared→Prop}(P:Pre Z w N hd A env sc l H n γ s){e:Addr}{ovs:Array Value}{v:V}{ok:Value→Prop}(fd:FlyD Z γ s.heap v e ovs)(ft:FlyT γ s.heap e ovs ok)
  (q:∀ s',Sm γ s γ s'→FlyS Z γ s'.heap env v (.ref e)→E (.ref e) s'):wpAny (model prog w) A (PySem.passOn what (.ref e) env:Sem α) Q E s:=by
 obtain⟨L,hL⟩:=P.frm
 obtain⟨c,fs,o,rfl,g0,d,ow,hz⟩:=fd.get
 obtain⟨T,oT,ts,fl',t1,t2,t3,t4,t5,t6,t7⟩:=id ft
 unfold PySem.passOn
 refine wpAny_bind (wpAny_field g0 d t1 ?_)
 rw [if_neg (by simp)]
 rw [hL]
 refine wpAny_bind (setFlight_ok (ok':=(·=rawInt L)) P fd ft rfl fun s2 S2 fd2 ft2=>wpAny_throw (q s2 S2 ?_))
 obtain⟨T2,oT2,ts2,fl2,u1,u2,u3,u4,u5,u6,u7⟩:=ft2
 exact⟨e,ovs,rfl,fd2,.inr ⟨T2,oT2,ts2,fl2,u1,u2,u3,u4,u5,u6,.inr ⟨L,hL,u7⟩⟩⟩
theorem goes_ok{x:Nat}{pos:Pos}{E:Value→Shared→Prop}(P:Pre Z w N hd A env sc l H n γ s)(hx:x < names.length)(hk:env.kindOf (nmS x)=some .local){kk:FL→Bool}(q:l.eraseK x kk=true) :
  wpAny (model prog w) A (do bindName env (nmS x) .none;unbindBehindTheSuite env (nmS x) pos) (fun _ s'=>∃ l',kk l'=true∧Stored Z w env (Xs env) γ H n s l' s') E s:=by
 obtain⟨l',q,hl'⟩:=FL.eraseK_spec q
 have R:=P.r
 obtain⟨m,hn,ho,hc,hl⟩:=P.e
 refine wpAny_nameGoes_keeps hk hn (by rw [P.es.kind];rfl) fun h' v hn' hs=>⟨l',q,?_⟩
 have K:Kp (Xs env) γ s.heap γ h':=.butX ho (xs1 env) hs
 have ne:∀ {c:Addr} {oc:Obj} {v:Option Value},s.heap.get? c=some oc→oc.data=.cell v→c≠env.locals:=by
  intro c oc v a b z
  subst z
  obtain⟨od,_,_,g,d,_⟩:=hn
  rw [a] at g;cases g;rw [b] at d;cases d
 refine ⟨R.butX ho hs (Nat.le_succ _),K,⟨_,hn',ho,⟨fun y c e=>?_,hc.has,hc.inj⟩,fun y u e=>?_⟩,rfl,rfl,rfl⟩
 ·obtain⟨oc,v,a,b,d⟩:=hc.at_ y c e
  exact⟨oc,v,(hs.2 c (ne a b)).trans a,b,d⟩
 ·rw [hl'] at e
  by_cases hy:y=x
  ·rw [if_pos hy] at e;cases e
  ·rw [if_neg hy] at e
   obtain⟨hy',hl⟩:=hl y u e
   refine ⟨hy',?_⟩
   rcases hl with ⟨a,ru,b,c⟩ | ⟨a,c,oc,ru,b,d,f,g⟩
   ·refine .loc a ru ?_ (c.mono K R.bnd)
    rw [if_neg (fun z=>hy (nmS_inj hy' hx z))];exact b
   ·exact .cel a c oc ru b ((hs.2 c (ne d f)).trans d) f (g.mono K R.bnd)
theorem goes_N{x:Nat}{pos:Pos}{E:Value→Shared→Prop}{k:FL→HT→Nat→Bool}(P:Pre Z w N hd A env sc l H n γ s)(hx:x < names.length)(hk:env.kindOf (nmS x)=some .local)(z:PostN Z w env γ s (fun l h n=>l.eraseK x fun l=>k l h n) s₁) :
  wpAny (model prog w) A (do bindName env (nmS x) .none;unbindBehindTheSuite env (nmS x) pos) (fun _ s'=>PostN Z w env γ s k s') E s₁:=by
 obtain⟨l4,H4,n4,γ4,q4,R4,K4,e4,F4⟩:=z
 refine wpAny_mono (goes_ok (P.goS K4 R4 e4) hx hk q4) (fun _ s5 z=>?_) fun _ _ z=>z
 obtain⟨l5,q5,R5,K5,e5,F5⟩:=z
 exact⟨l5,H4,n4,γ4,q5,R5,K4.trans K5,e5,F4.trans F5⟩
theorem sub_tt:isSubtype (.type "type") (.type "tuple")=pure false:=by rw [isSubtype_type];kernel_rfl
theorem matches_ok{Q:Bool→Shared→Prop}{E:Value→Shared→Prop}(O:KB Z w)(R:Rel Z w γ H n s){e:Addr}{ovs:Array Value}{c d:Nat}{cd cdd:CD}{fs:VL}(hcd:clT.get c=some cd)(hd:clT.get d=some cdd)(hk:cdd.kind=2)(fd:FlyD Z γ s.heap (.exc c fs) e ovs)(q:Q (memN cd.anc d) s) :
  wpAny (model prog w) A (excMatches (.ref e) (.ref (Z.clA d))) Q E s:=by
 obtain⟨cd',d',m,rvs,h1,h2,h3,h4,h5,h6,h7,h8,h9,h10⟩:=fd
 rw [hcd] at h1;cases h1
 have E0:=O.exc _ _ hd hk
 unfold excOk at E0
 simp only [Bool.and_eq_true,beq_iff_eq,List.all_eq_true] at E0
 obtain⟨⟨⟨⟨⟨_,_⟩,_⟩,e4⟩,e6⟩,_⟩:=E0
 have R':=R
 obtain⟨hp,gg,dd,tk,os⟩:=s
 dsimp only at h3
 have L1:=looks_typeIn (M:=model prog w) R'.st e6
 have L2:Looks (model prog w) hp (isInstance (.ref (Z.clA d)) (.type "tuple")) false:=L1.andThen (Looks.of_pure sub_tt)
 obtain⟨cdC,hC⟩:∃ cdC,clsIn (Z.K w.params) (Z.clA d)=some cdC:=by
  cases g:clsIn (Z.K w.params) (Z.clA d) with
  | none=>unfold mroIn at e4;rw [g] at e4;cases e4
  | some x=>exact⟨x,rfl⟩
 have L3:Looks (model prog w) hp (PySem.isType (.ref (Z.clA d))) true:=by
  unfold clsIn at hC
  cases ho:(Z.K w.params).lookup (Z.clA d) with
  | none=>rw [ho] at hC;cases hC
  | some o=>exact (Looks.ld (R'.st _ _ ho)).andThen (by obtain⟨c,d,dt,sl⟩:=o;cases dt with | cls=>exact .now | _=>rw [ho] at hC;cases hC)
 have L4:Looks (model prog w) hp (isExcClass (.ref (Z.clA d))) true:=L3.andThen (looks_mroIn R'.st e4)
 have L5:Looks (model prog w) hp (typeOf (.ref e)) (.ref (Z.clA c)):=(Looks.ld h3).andThen .now
 have L6:=looks_mroIn (M:=model prog w) R'.st (O.anc c cd d hcd (by rw [hd];rfl))
 unfold excMatches
 refine wpAny_bind (L2.at ?_)
 rw [if_neg Bool.false_ne_true]
 refine wpAny_bind (wpAny_pure ?_)
 simp only [List.forIn_cons,List.forIn_nil]
 refine wpAny_bind (wpAny_bind (wpAny_bind (L4.at ?_)))
 rw [if_neg (by decide)]
 refine wpAny_pure (wpAny_pure (wpAny_bind (L5.at (wpAny_bind (wpAny_bind (wpAny_bind (L6.at ?_)))))))
 cases hb:memN cd.anc d with
 | true =>
  rw [if_pos rfl]
  rw [hb] at q
  exact wpAny_pure (wpAny_pure (wpAny_pure q))
 | false =>
  rw [if_neg Bool.false_ne_true]
  rw [hb] at q
  exact wpAny_pure (wpAny_pure (wpAny_pure q))
theorem FL.eraseK_eq(x:Nat):∀ l:FL,∃ l',(∀ k:FL→Bool,l.eraseK x k=k l')∧True:=by
 intro l
 induction l with
 | nil=>exact⟨.nil,fun _=>rfl,trivial⟩
 | cons a w r ih =>
  obtain⟨l',e1,_⟩:=ih
  have red:∀ k:FL→Bool,(FL.cons a w r).eraseK x k=@Bool.rec (fun _=>Bool) (r.eraseK x fun r'=>k (.cons a w r')) (r.eraseK x k) (Nat.beq a x):=fun _=>rfl
  by_cases h:a=x
  ·exact⟨l',fun k=>by rw [red,beqE a x,decide_eq_true h];exact e1 _,trivial⟩
  ·exact⟨.cons a w l',fun k=>by rw [red,beqE a x,decide_eq_false h];exact e1 _,trivial⟩
noncomputable def SndH(Z:SA)(w:World)(sc:List (PS × NameKind))(m:HM)(hs:List ExceptHandler):Prop:=∀ (N:Nat) (hd:Bool) (A:Around) (env:Env) (l:FL) (H:HT) (n:Nat) (ks:KS) (γ:Gh) (s:Shared) (c:Nat) (fs:VL) (e:Addr) (ovs:Array Value),
 Pre Z w N hd A env sc l H n γ s→FlyD Z γ s.heap (.exc c fs) e ovs→FlyT γ s.heap e ovs (fun _=>True)→m (mk fnT FDeed N hd) c (.exc c fs) l H n ks=true→wpAny (model prog w) A (handleBy (.ref e) env hs) (PostF Z w env γ s ks) (PostE Z w env γ s ks) s
theorem sH_nil:SndH Z w sc hNil []:=fun N hd A env l H n ks γ s c fs e ovs P fd ft q=>by
 refine wpAny_handleBy_nil (passOn_ok P fd ft fun s' S fl=>?_)
 exact⟨_,l,H,n,γ,q,P.r.sm S,S.K.nx,(P.sm S).e,fl,S.fro⟩
set_option tactic.hygienic true in
theorem sH_cons(O:KB Z w){d nm:Nat}{b:SM}{r:HM}{t:PX}{x:PS}{b₀:Stmt}{suite:List Stmt}{pos:Pos}{rest:List ExceptHandler}{cdd:CD}(hdd:clT.get d=some cdd)(hk:cdd.kind=2)
  (g:SndE Z w sc (Xg (.a (.cls d))) t) (ex:nmS nm=x) (hs:(decide (nm < names.length) && sc.lookup (nmS nm) == some .local)=true) (y:SndS Z w sc b (b₀ :: suite)) (yr:SndH Z w sc r rest) :
  SndH Z w sc (hCons d nm b r) (.ExceptHandler (some t) (some x) (b₀ :: suite) pos :: rest):=fun N hd A env l H n ks γ s c fs e ovs P fd ft q=>by
 subst ex
 simp only [Bool.and_eq_true,decide_eq_true_eq,beq_iff_eq] at hs
 obtain⟨hx,hs⟩:=hs
 have hkd:=P.ec _ _ hs (by intro z;cases z)
 have P1:=P.mark fd.chain
 refine wpAny_handleBy_cons (codeAny_handlers_test ?_) (by intro q;cases q)
 refine wpAny_mono (g.glo P1) (fun rv s1 z=>?_) fun _ _ z=>z
 ·obtain⟨γ1,R1,K1,vr,F1⟩:=z
  obtain rfl:rv=.ref (Z.clA d):=vr
  have Pa:=P.go K1 R1
  obtain⟨ov1,fd1,ft1⟩:=fd.kp K1 P.r.bnd ft
  have Pm:=Pa.mark fd1.chain
  obtain⟨cd,hcd,q1⟩:=optK_some (show optK (clT.get c) _=true from q)
  have up1:∀ {A':Around} {t:Sem Flow} {sx:Shared},wpAny (model prog w) A' t (PostF Z w env γ1 s1 ks) (PostE Z w env γ1 s1 ks) sx→wpAny (model prog w) A' t (PostF Z w env γ s ks) (PostE Z w env γ s ks) sx:=fun x=>upS K1.nx F1 x
  refine matches_ok O R1 hcd hdd hk fd1 ?_
  cases hb:memN cd.anc d with
  | false =>
   rw [hb] at q1
   simp only [Bool.false_eq_true,if_false]
   exact up1 (yr N hd A env l H n ks γ1 s1 c fs e ov1 Pa fd1 ft1 q1)
  | true =>
   rw [hb] at q1
   simp only [if_true]
   have q1:l.setK nm (.exc c fs) (fun l'=>b (mk fnT FDeed N hd).hand l' H n ⟨fun l h n=>l.eraseK nm fun l=>ks.nx l h n,ks.rt,fun l h n=>l.eraseK nm fun l=>ks.bk l h n,fun e l h n=>l.eraseK nm fun l=>ks.xc e l h n⟩)=true:=q1
   rw [mk_hand] at q1
   have back:∀ {ex:Value} {sx:Shared},PostE Z w env γ1 s1 ks ex sx→notedBy (model prog w) (A.mark (some (.ref e))) env (cameBackBy (model prog w) A env (PostE Z w env γ s ks)) ex sx:=fun z =>
    notedBy_mono (exc_back2 Pa Pm z) fun _ _ z=>z.up K1.nx F1
   refine codeAny_handlers_suite_as (setFlight_ok (ok':=(·=.none)) Pm fd1 ft1 rfl fun s2 S2 fd2 ft2=>?_)
   have Pm2:=Pm.sm S2
   refine wpAny_mono (store_ok (X:=Xs env) P.es Pm2.r Pm2.e hx (.inl hkd) fd2.vr q1 (xs1 env) (xs2 env _)) (fun _ s3 z=>?_) fun _ _ z=>z
   obtain⟨l3,q3,R3,K3,en3,F3⟩:=z
   have Pm3:=Pm2.goS K3 R3 en3
   have K13:Kp (Xs env) γ1 s1.heap γ1 s3.heap:=S2.K.nx.trans K3
   have F13:=S2.fro.trans F3
   refine wpAny_mono (y N true (A.mark (some (.ref e))) env l3 H n _ γ1 s3 Pm3 q3) (fun f s4 z=>?_) fun ex s4 z=>?_
   ·cases f with
    | next=>exact wpAny_mono (goes_N (Pa.goS K13 R3 en3) hx hkd z) (fun _ s5 z=>PostN.up K1.nx F1 (PostN.up K13 F13 z)) fun _ _ z=>z
    | brk=>exact wpAny_mono (goes_N (Pa.goS K13 R3 en3) hx hkd z) (fun _ s5 z=>PostN.up K1.nx F1 (PostN.up K13 F13 z)) fun _ _ z=>z
    | cont=>exact z.elim
    | ret v =>
     obtain⟨u,H4,n4,γ4,q4,R4,K4,vr4,nx4,⟨l4,e4⟩,F4⟩:=z
     have P4:=(Pa.goS K13 R3 en3).goS K4 R4 e4
     obtain⟨l5,e5,_⟩:=FL.eraseK_eq nm l4
     have qq:l4.eraseK nm (fun _=>true)=true:=e5 _
     refine wpAny_mono (goes_ok P4 hx hkd qq) (fun _ s5 z=>?_) fun _ _ z=>z
     obtain⟨l5,q5,R5,K5,e5,F5⟩:=z
     exact PostF.up K1.nx F1 ⟨u,H4,n4,γ4,q4,R5,(K13.trans K4).trans K5,vr4.mono K5 R4.bnd,nx4,⟨_,e5⟩,(F13.trans F4).trans F5⟩
   ·obtain⟨v4,l4,H4,n4,γ4,q4,R4,K4,e4,fl4,F4⟩:=z
    have P4:=Pm3.goS K4 R4 e4
    refine noteFrame_ok P4 fl4 fun γ5 s5 e' L he hL S5 fn=>?_
    subst he
    obtain⟨ov5,fd5,ft5⟩:=fn
    have P5:=P4.sm S5
    refine wpAny_mono (goes_ok P5 hx hkd q4) (fun _ s6 z=>?_) fun _ _ z=>z
    obtain⟨l6,q6,R6,K6,e6,F6⟩:=z
    have P6:=P5.goS K6 R6 e6
    obtain⟨ov6,fd6,ft6⟩:=fd5.kp K6 P5.r.bnd ft5
    refine passOn_ok P6 fd6 ft6 fun s7 S7 fl7=>back ?_
    exact⟨v4,l6,H4,n4,γ5,q6,R6.sm S7,(((K13.trans K4).trans S5.K.nx).trans K6).trans S7.K.nx,(P6.sm S7).e,fl7,(((F13.trans F4).trans S5.fro).trans F6).trans S7.fro⟩
end
section
variable{Z:SA}{w:World}{hd:Bool}{X:Addr→Prop}{γ γ' γ₁ γ₂:Gh}{h h':Heap}{s s' s₁ s₂:Shared}{H H':HT}{n n' N:Nat}{A:Around}{env:Env}{l l':FL}{k kx:KV}{ks ks':KS}{sc:List (PS × NameKind)}
set_option tactic.hygienic true in
theorem sS_tryE{b:SM}{hm:HM}{body:List Stmt}{h₀:ExceptHandler}{hs:List ExceptHandler}{pos:Pos}(y:SndS Z w sc b body)(yh:SndH Z w sc hm (h₀ :: hs)):SndS1 Z w sc (sTryE b hm) (.Try body (h₀ :: hs) [] [] pos):=fun N hd A env l H n ks γ s P q=>by
 refine wpAny_Try_except (wpAny_mono (y N hd A env l H n _ γ s P q) (fun f s1 z=>?_) fun e s1 z=>?_)
 ·cases f with
  | next=>exact wpAny_execs_nil z
  | brk=>exact z
  | cont=>exact z
  | ret v=>exact z
 ·obtain⟨v,l1,H1,n1,γ1,q1,R1,K1,e1,fl1,F1⟩:=z
  have P1:=P.goS K1 R1 e1
  refine noteFrame_ok P1 fl1 fun γ2 s2 e' L he hL S2 fn=>?_
  subst he
  obtain⟨ovs,fd,ft⟩:=fn
  have P2:=P1.sm S2
  refine setFlight_ok (ok':=fun _=>True) P2 fd ft trivial fun s3 S3 fd3 ft3=>?_
  have P3:=P2.sm S3
  dsimp only at q1
  split at q1
  ·rename_i c fs
   exact upS (K1.trans (S2.K.trans S3.K).nx) (F1.trans (S2.fro.trans S3.fro)) (yh N hd A env l1 H1 n1 ks γ2 s3 c fs e' ovs P3 fd3 ft3 q1)
  ·cases q1
set_option tactic.hygienic true in
theorem sS_tryF{b f:SM}{body:List Stmt}{f₀:Stmt}{fs:List Stmt}{pos:Pos}(y:SndS Z w sc b body)(yf:SndS Z w sc f (f₀ :: fs)):SndS1 Z w sc (sTryF b f) (.Try body [] [] (f₀ :: fs) pos):=fun N hd A env l H n ks γ s P q=>by
 refine wpAny_Try_finally (wpAny_mono (y N hd A env l H n _ γ s P q) (fun g s1 z=>?_) fun e s1 z=>?_)
 ·cases g with
  | next =>
   obtain⟨l1,H1,n1,γ1,q1,R1,K1,e1,F1⟩:=z
   refine wpAny_execs_nil (wpAny_mono (yf N hd A env l1 H1 n1 ks γ1 s1 (P.goS K1 R1 e1) q1) (fun g s2 z=>?_) fun e s2 z=>exc_back P (z.up K1 F1))
   have z:=z.up K1 F1
   cases g <;> exact z
  | brk=>exact PostN.no z
  | cont=>exact z.elim
  | ret v=>exact PostR.no z
 ·obtain⟨v,l1,H1,n1,γ1,q1,R1,K1,e1,fl1,F1⟩:=z
  have P1:=P.goS K1 R1 e1
  refine noteFrame_ok P1 fl1 fun γ2 s2 e' L he hL S2 fn=>?_
  subst he
  obtain⟨ovs,fd,T,oT,ts,fl,t1,t2,t3,t4,t5,t6,rfl⟩:=fn
  have P2:=P1.sm S2
  refine ⟨(fun z=>nomatch z),noteFrame_ok P2 ⟨e',ovs,rfl,fd,.inr ⟨T,oT,ts,_,t1,t2,t3,t4,t5,t6,.inr ⟨L,hL,rfl⟩⟩⟩ fun γ3 s3 e3 L3 he hL3 S3 fn=>?_⟩
  cases he
  obtain⟨ovs3,fd3,ft3⟩:=fn
  have P3:=P2.sm S3
  refine setFlight_ok (ok':=(·=.none)) P3 fd3 ft3 rfl fun s4 S4 fd4 ft4=>?_
  have P4:=P3.sm S4
  have Pm:=P4.mark fd4.chain
  have q1:f (mk fnT FDeed N hd).hand l1 H1 n1 ⟨fun l h n=>ks.xc v l h n,fun _ _ _=>false,fun _ _ _=>false,ks.xc⟩=true:=q1
  rw [mk_hand] at q1
  have K14:Kp (Xs env) γ s.heap γ3 s4.heap:=K1.trans (S2.K.trans (S3.K.trans S4.K)).nx
  have F14:=F1.trans (S2.fro.trans (S3.fro.trans S4.fro))
  refine wpAny_mono (yf N true (A.mark (some (.ref e'))) env l1 H1 n1 _ γ3 s4 Pm q1) (fun g s5 z=>?_) fun x s5 z=>?_
  ·cases g with
   | next =>
    obtain⟨l5,H5,n5,γ5,q5,R5,K5,e5,F5⟩:=z
    have P5:=P4.goS K5 R5 e5
    obtain⟨ov5,fd5,ft5⟩:=fd4.kp K5 P4.r.bnd ft4
    refine passOn_ok P5 fd5 ft5 fun s6 S6 fl6=>?_
    exact⟨v,l5,H5,n5,γ5,q5,R5.sm S6,(K14.trans K5).trans S6.K.nx,(P5.sm S6).e,fl6,(F14.trans F5).trans S6.fro⟩
   | brk=>exact PostN.no z
   | cont=>exact z.elim
   | ret v=>exact PostR.no z
  ·exact notedBy_mono (exc_back2 P4 Pm (ks:=ks) z) fun _ _ z=>z.up K14 F14
end
end Mine
end
section
open PySem renaming Expr→PX,Str→PS
open PySem PySem.W PySem.Calls PyProof.Rows PySem.SeqAt
namespace Mine
section
variable{w:World}{A:Around}{E:Value→Shared→Prop}{s:Shared}
theorem enumStep{e it:Addr}{c:Int}{old:Value}{Q:Value→Shared→Prop}(he:IsEnum s.heap e it c old)
  (hin:wpAny (model prog w) A (Builtin.SmallTypes.nextOf (.ref it)) (fun x s1=>∃ h1,s1={ s with heap:=h1 }∧Heap.SameBut it s.heap h1∧h1.get? e=s.heap.get? e ∧
   ∀ h',IsEnumOut h' e it (c + 1) x s.heap.objs.size→(∀ b o,b≠e→h1.get? b=some o→h'.get? b=some o)→h'.get? s.heap.objs.size=some { cls:=.type "tuple",data:=.seq #[.int c s.toks,x] }→h'.objs.size=s.heap.objs.size + 1 →
    Q (.ref s.heap.objs.size) { s with heap:=h',toks:=s.toks + 1 }) E s) :
  wpAny (model prog w) A (Builtin.«enumerate.__next__» ⟨[.ref e],[]⟩) (fun fin s'=>∃ v,fin=.done (.ret v)∧Q v s') E s:=by
 obtain⟨hp,g,d,tk,os⟩:=s
 show wpAny _ _ (field (.ref e) 2 >>= _) _ _ _
 refine wpAny_bind (wpAny_field he rfl (x:=.ref it) rfl ?_)
 refine wpAny_bind (wpAny_mono hin (fun x s1 z=>?_) fun _ _ z=>z)
 obtain⟨h1,rfl,sb,se,fin⟩:=z
 have he1:IsEnum h1 e it c old:=se.trans he
 have lt:e < h1.objs.size:=Heap.lt_size he1
 have sz1:h1.objs.size=hp.objs.size:=sb.1
 show wpAny _ _ (field (.ref e) 3 >>= _) _ _ ⟨h1,g,d,tk,os⟩
 refine wpAny_bind (wpAny_field he1 rfl (x:=rawInt c) rfl ?_)
 show wpAny _ _ (field (.ref e) 4 >>= _) _ _ ⟨h1,g,d,tk,os⟩
 refine wpAny_bind (wpAny_field he1 rfl (x:=.none) rfl ?_)
 show wpAny _ _ (mkInt c >>= _) _ _ ⟨h1,g,d,tk,os⟩
 refine wpAny_bind (wpAny_mkInt ?_)
 show wpAny _ _ (setField (.ref e) 3 (rawInt (c + 1)) >>= _) _ _ ⟨h1,g,d,tk + 1,os⟩
 refine wpAny_bind (wpAny_setField_rec he1 (by simp) fun h2 he2 hs2=>?_)
 replace hs2:Heap.SameBut e h1 h2:=hs2
 replace he2:IsEnum h2 e it (c + 1) old:=he2
 show wpAny _ _ (setField (.ref e) 4 .none >>= _) _ _ ⟨h2,g,d,tk + 1,os⟩
 refine wpAny_bind (wpAny_setField_rec he2 (by simp) fun h3 he3 hs3=>?_)
 replace hs3:Heap.SameBut e h2 h3:=hs3
 replace he3:IsEnum h3 e it (c + 1) old:=he3
 have sz3:h3.objs.size=hp.objs.size:=by rw [hs3.1,hs2.1,sz1]
 show wpAny _ _ (newTuple [.int c tk,x] >>= _) _ _ ⟨h3,g,d,tk + 1,os⟩
 refine wpAny_bind (wpAny_newTuple ?_)
 have he4:IsEnum (h3.push { cls:=.type "tuple",data:=.seq #[.int c tk,x] }) e it (c + 1) old:=Heap.get?_push_of_some _ he3
 have t4:(h3.push { cls:=.type "tuple",data:=.seq #[.int c tk,x] }).get? hp.objs.size=some { cls:=.type "tuple",data:=.seq #[.int c tk,x] }:=by rw [← sz3];exact Heap.get?_push_size _ rfl
 have k4:∀ b o,b≠e→h1.get? b=some o→(h3.push { cls:=.type "tuple",data:=.seq #[.int c tk,x] }).get? b=some o:=fun b o hb q=>Heap.get?_push_of_some _ ((hs3.2 b hb).trans ((hs2.2 b hb).trans q))
 have z4:(h3.push { cls:=.type "tuple",data:=.seq #[.int c tk,x] }).objs.size=hp.objs.size + 1:=by rw [Heap.size_push,sz3]
 have net:hp.objs.size≠e:=by rw [← sz1];exact Nat.ne_of_gt lt
 show wpAny _ _ (Builtin.SmallTypes.ownedTupleIsFree (.ref e) >>= _) _ _ ⟨_,g,d,tk + 1,os⟩
 rw [sz3]
 generalize h3.push { cls:=.type "tuple",data:=.seq #[.int c tk,x] }=h4 at he4 t4 k4 z4 ⊢
 refine wpAny_bind ?_
 unfold Builtin.SmallTypes.ownedTupleIsFree
 refine wpAny_bind (wpAny_field he4 rfl (x:=.none) rfl (wpAny_pure ?_))
 simp only [if_true]
 refine wpAny_bind (wpAny_rule (wpAny_bind (wpAny_field he4 rfl (x:=old) rfl (wpAny_bind (wpAny_setField_rec he4 (by simp) fun h5 he5 hs5=>?_)))))
 replace hs5:Heap.SameBut e h4 h5:=hs5
 replace he5:IsEnum h5 e it (c + 1) x:=he5
 show wpAny _ _ (Builtin.SmallTypes.ownedTupleHandOut (.ref e) (.ref hp.objs.size) >>= _) _ _ ⟨h5,g,d,tk + 1,os⟩
 refine wpAny_bind ?_
 unfold Builtin.SmallTypes.ownedTupleHandOut
 refine wpAny_bind (wpAny_setField_rec he5 (by simp) fun h6 he6 hs6=>?_)
 replace hs6:Heap.SameBut e h5 h6:=hs6
 replace he6:IsEnumOut h6 e it (c + 1) x hp.objs.size:=he6
 refine wpAny_setField_rec he6 (by simp) fun h7 he7 hs7=>?_
 replace hs7:Heap.SameBut e h6 h7:=hs7
 replace he7:IsEnumOut h7 e it (c + 1) x hp.objs.size:=he7
 have same:∀ b,b≠e→h7.get? b=h4.get? b:=fun b hb=>(hs7.2 b hb).trans ((hs6.2 b hb).trans (hs5.2 b hb))
 refine wpAny_bind (wpAny_letGo (wpAny_pure ⟨_,rfl,fin h7 he7 (fun b o hb q=>(same b hb).trans (k4 b o hb q)) ((same _ net).trans t4) ?_⟩))
 rw [hs7.1,hs6.1,hs5.1,z4]
set_option tactic.hygienic true in
theorem enumNext{e it:Addr}{c:Int}{old:Value}{Q:Option Value→Shared→Prop}(he:IsEnum s.heap e it c old)
  (hin:∀ A':Around,A'.handled=A.handled→wpAny (model prog w) A' (Builtin.SmallTypes.nextOf (.ref it)) (fun x s1=>∃ h1,s1={ s with heap:=h1 }∧Heap.SameBut it s.heap h1∧h1.get? e=s.heap.get? e ∧
   ∀ h',IsEnumOut h' e it (c + 1) x s.heap.objs.size→(∀ b o,b≠e→h1.get? b=some o→h'.get? b=some o)→h'.get? s.heap.objs.size=some { cls:=.type "tuple",data:=.seq #[.int c s.toks,x] }→h'.objs.size=s.heap.objs.size + 1 →
    Q (some (.ref s.heap.objs.size)) { s with heap:=h',toks:=s.toks + 1 }) (fun x s1=>∃ a,x=.ref a∧(∃ o,s1.heap.get? a=some o∧o.cls=.type "StopIteration")∧Q none s1) s) :
  wpAny (model prog w) A (pyNext (.ref e)) Q E s:=by
 have hT:s.TypeIs (.ref e) "enumerate" := ⟨_,he,rfl⟩
 unfold pyNext
 refine wpAny_bind (wpAny_attempt (wpAny_callSpecial?_slot (name:=Str.ofString "__next__") hT F.slot_enumerate_next
  (wpAny_call_entry F.slot_enumerate_next hT F.entry_enumerate_next ?_ (F.args_enumerate_next_1 _))))
 refine wpAny_mono (enumStep he (Q:=fun v s1=>Q (some v) s1) (E:=fun x s1=>∃ a,x=.ref a∧(∃ o,s1.heap.get? a=some o∧o.cls=.type "StopIteration")∧Q none s1) (hin _ rfl)) (fun v s1 z=>?_) fun x s1 z=>?_
 ·obtain⟨v,rfl,q⟩:=z
  exact⟨v,rfl,wpAny_pure q⟩
 ·obtain⟨a,rfl,g,q⟩:=z
  exact wpAny_bind (wpAny_isInstance (T:= "StopIteration") (b:=true) g isSubtype_stop (wpAny_pure q))
end
section
variable{w:World}{γ:Gh}{A:Around}{hd:Bool}{E:Value→Shared→Prop}{s:Shared}
set_option tactic.hygienic true in
theorem inner_list_end{it l:Addr}{i:Nat}{items}{Q:Value→Shared→Prop}(hh:HdOk A hd γ s.heap)(f:γ.own it≠.exn)
  (hit:s.heap.IsListIter it l i) (hl:s.heap.IsList l items) (hx:items[i]?=none)
  (hE:∀ h' a,ItKeep it s.heap h'→(∃ o,h'.get? a=some o∧o.cls=.type "StopIteration")→E (.ref a) { s with heap:=h' }):wpAny (model prog w) A (Builtin.SmallTypes.nextOf (.ref it)) Q E s:=by
 obtain⟨o,ho,hc,hd⟩:=id hit
 obtain⟨ol,hol,_,nl,hdl⟩:=hl
 unfold Builtin.SmallTypes.nextOf
 refine wpAny_bind (wpAny_callSpecial?_slot (name:=Str.ofString "__next__") hit.typeIs slot_listiter_next
  (wpAny_call_entry slot_listiter_next hit.typeIs entry_listiter_next ?_ (args_listiter_next _)))
 show wpAny _ _ (field (.ref it) 0 >>= _) _ _ s
 refine wpAny_bind (wpAny_field ho hd (x:=.ref l) rfl ?_)
 show wpAny _ _ (if (Value.ref l == Value.none)=true then _ else _) _ _ s
 rw [if_neg (show ¬ ((Value.ref l == Value.none)=true) from Bool.false_ne_true)]
 show wpAny _ _ (field (.ref it) 1 >>= _) _ _ s
 refine wpAny_bind (wpAny_field ho hd (x:=.int i 0) rfl ?_)
 show wpAny _ _ (seqItems? (.ref l) >>= _) _ _ s
 refine wpAny_bind (wpAny_seqItems hol hdl ?_)
 simp only [Int.toNat_natCast,hx]
 refine wpAny_bind (wpAny_rule (wpAny_bind (wpAny_setField ho hd (by simp) ?_)))
 have hs:=Heap.SameBut.update s.heap it (Obj.mapFields fun x=>x.setIfInBounds 0 Value.none)
 refine stop_ok (hd:=_) (γ:=γ) (h:=s.heap) (A:=A.in1) (s:={ s with heap:=_ }) hh.in1 (by rw [hs.1];exact Nat.le_refl _) (fun c x=>chain_update hs f x) fun h' a k z g=>?_
 exact hE h' a ⟨fun b o hb e=>k _ _ ((hs.2 b hb).trans e),by rw [hs.1] at z;exact z⟩ g
set_option tactic.hygienic true in
theorem inner_tuple_end{it t:Addr}{i:Nat}{items}{Q:Value→Shared→Prop}(hh:HdOk A hd γ s.heap)(f:γ.own it≠.exn)
  (hit:IsTupIter s.heap it t i) (ht:IsTup s.heap t items) (hx:items[i]?=none)
  (hE:∀ h' a,ItKeep it s.heap h'→(∃ o,h'.get? a=some o∧o.cls=.type "StopIteration")→E (.ref a) { s with heap:=h' }):wpAny (model prog w) A (Builtin.SmallTypes.nextOf (.ref it)) Q E s:=by
 obtain⟨o,ho,hc,hd⟩:=id hit
 obtain⟨ol,hol,_,nl,hdl⟩:=ht
 unfold Builtin.SmallTypes.nextOf
 refine wpAny_bind (wpAny_callSpecial?_slot (name:=Str.ofString "__next__") hit.typeIs slot_tupleiter_next
  (wpAny_call_entry slot_tupleiter_next hit.typeIs entry_tupleiter_next ?_ (args_tupleiter_next _)))
 show wpAny _ _ (field (.ref it) 0 >>= _) _ _ s
 refine wpAny_bind (wpAny_field ho hd (x:=.ref t) rfl ?_)
 show wpAny _ _ (if (Value.ref t == Value.none)=true then _ else _) _ _ s
 rw [if_neg (show ¬ ((Value.ref t == Value.none)=true) from Bool.false_ne_true)]
 show wpAny _ _ (field (.ref it) 1 >>= _) _ _ s
 refine wpAny_bind (wpAny_field ho hd (x:=.int i 0) rfl ?_)
 show wpAny _ _ (seqItems? (.ref t) >>= _) _ _ s
 refine wpAny_bind (wpAny_seqItems hol hdl ?_)
 simp only [Int.toNat_natCast,hx]
 refine wpAny_bind (wpAny_rule (wpAny_bind (wpAny_setField ho hd (by simp) ?_)))
 have hs:=Heap.SameBut.update s.heap it (Obj.mapFields fun x=>x.setIfInBounds 0 Value.none)
 refine stop_ok (hd:=_) (γ:=γ) (h:=s.heap) (A:=A.in1) (s:={ s with heap:=_ }) hh.in1 (by rw [hs.1];exact Nat.le_refl _) (fun c x=>chain_update hs f x) fun h' a k z g=>?_
 exact hE h' a ⟨fun b o hb e=>k _ _ ((hs.2 b hb).trans e),by rw [hs.1] at z;exact z⟩ g
set_option tactic.hygienic true in
theorem inner_tuple_item{it t:Addr}{i:Nat}{items}{x:Value}{Q:Value→Shared→Prop}(hit:IsTupIter s.heap it t i)
  (ht:IsTup s.heap t items) (hx:items[i]?=some x)
  (hQ:∀ h',IsTupIter h' it t (i + 1)→Heap.SameBut it s.heap h'→Q x { s with heap:=h' }) :
  wpAny (model prog w) A (Builtin.SmallTypes.nextOf (.ref it)) Q E s:=by
 obtain⟨o,ho,hc,hd⟩:=id hit
 obtain⟨ol,hol,_,nl,hdl⟩:=ht
 unfold Builtin.SmallTypes.nextOf
 refine wpAny_bind (wpAny_callSpecial?_slot (name:=Str.ofString "__next__") hit.typeIs slot_tupleiter_next
  (wpAny_call_entry slot_tupleiter_next hit.typeIs entry_tupleiter_next ?_ (args_tupleiter_next _)))
 show wpAny _ _ (field (.ref it) 0 >>= _) _ _ s
 refine wpAny_bind (wpAny_field ho hd (x:=.ref t) rfl ?_)
 show wpAny _ _ (if (Value.ref t == Value.none)=true then _ else _) _ _ s
 rw [if_neg (show ¬ ((Value.ref t == Value.none)=true) from Bool.false_ne_true)]
 show wpAny _ _ (field (.ref it) 1 >>= _) _ _ s
 refine wpAny_bind (wpAny_field ho hd (x:=.int i 0) rfl ?_)
 show wpAny _ _ (seqItems? (.ref t) >>= _) _ _ s
 refine wpAny_bind (wpAny_seqItems hol hdl ?_)
 simp only [Int.toNat_natCast,hx]
 refine wpAny_bind (wpAny_setField ho hd (by simp) (wpAny_pure ⟨x,rfl,wpAny_pure (hQ _ ?_ (Heap.SameBut.update ..))⟩))
 exact⟨_,Heap.get?_update_self _ ho (Obj.isFreed_of_fields (Obj.data_mapFields hd _)),(Obj.cls_mapFields ..).trans hc,by
  rw [Obj.data_mapFields hd];simp [rawInt]⟩
end
end Mine
end
section
open PySem renaming Expr→PX,Str→PS
open PySem PySem.W PySem.Calls PyProof.Rows PySem.SeqAt
open AutoSeq1 (wpAny_loadPart')
namespace Mine
theorem wp_ite{M:Model}{A:Around}{α:Type}{c:Bool}{x y:Sem α}{Q:α→Shared→Prop}{E:Value→Shared→Prop}{s:Shared}(h1:wpAny M A x Q E s)(h2:wpAny M A y Q E s):wpAny M A (if c=true then x else y) Q E s:=by
 cases c
 ·exact h2
 ·exact h1
theorem meets_enumT(l:Addr)(items:Array Value)(n:Nat) :
  Meets (Builtin.«enumerate.__new__» ⟨[.type "enumerate",.ref l],[]⟩) (fun _ R s=>s.heap.get? l=some { cls:=.type "tuple",dict:=none,data:=.seq items n,slots:=#[] } ∧
   R (.ok (.ret (.ref (s.heap.push { cls:=.type "tuple_iterator",data:=.fields #[.ref l,.int 0 0] }).objs.size)))
    { s with heap:=(s.heap.push { cls:=.type "tuple_iterator",data:=.fields #[.ref l,.int 0 0] }).push { cls:=.type "enumerate",data:=.fields #[.none,.bool false,.ref s.heap.objs.size,rawInt 0,.none,.none] } }) :=
 .of_wp fun prog w A R s h=>by
  obtain⟨hp,g,d,tk,os⟩:=s;obtain⟨hl,h⟩:=h
  have hsub:=sub_enumerate
  have hL:IsTup (Shared.heap ⟨hp,g,d,tk,os⟩) l items:=⟨_,hl,rfl,n,rfl⟩
  wp_walk using wpAny_loadPart' hl
  refine wpAny_stack_any fun st=>wpAny_pure ?_
  refine wp_ite ?_ ?_ <;>
  ·wp_walk using wpAny_loadPart' hl,iter_tuple hL
   exact⟨_,rfl,h⟩
section
variable{w:World}{A:Around}{E:Value→Shared→Prop}{s:Shared}
theorem call_enumT{l:Addr}{items:Array Value}{n:Nat}{Q:Value→Shared→Prop}
  (hl:s.heap.get? l=some { cls:=.type "tuple",dict:=none,data:=.seq items n,slots:=#[] })
  (h:∀ h',IsEnum h' (s.heap.objs.size + 1) s.heap.objs.size 0 .none→IsTupIter h' s.heap.objs.size l 0→h'.objs.size=s.heap.objs.size + 2 →
   (∀ b o,s.heap.get? b=some o→h'.get? b=some o)→Q (.ref (s.heap.objs.size + 1)) { s with heap:=h' }) :
  wpAny (model prog w) A (PySem.call (.type "enumerate") [.ref l]) Q E s:=by
 refine callType_new F.called_enumerate (by decide) (F.typeCall_enumerate_1 _) (F.newCall_enumerate_1 _) (fun obj=>F.args_object_init_2 obj _) F.entry_enumerate_new
  (meets_enumT l items n) ⟨hl,?_⟩
 have hz:(s.heap.push { cls:=.type "tuple_iterator",data:=.fields #[.ref l,.int 0 0] }).objs.size=s.heap.objs.size + 1:=Heap.size_push ..
 show _∧_
 rw [hz]
 have he:IsEnum ((s.heap.push { cls:=.type "tuple_iterator",data:=.fields #[.ref l,.int 0 0] }).push
   { cls:=.type "enumerate",data:=.fields #[.none,.bool false,.ref s.heap.objs.size,rawInt 0,.none,.none] }) (s.heap.objs.size + 1) s.heap.objs.size 0 .none:=by
  have:=Heap.get?_push_size (s.heap.push { cls:=.type "tuple_iterator",data:=.fields #[.ref l,.int 0 0] })
   (o:={ cls:=.type "enumerate",data:=.fields #[.none,.bool false,.ref s.heap.objs.size,rawInt 0,.none,.none] }) rfl
  rw [hz] at this;exact this
 refine ⟨⟨_,he,rfl⟩,h _ he ⟨_,Heap.get?_push_of_some _ (Heap.get?_push_size _ rfl),rfl,rfl⟩ (by rw [Heap.size_push,hz]) fun b o x=>Heap.get?_push_of_some _ (Heap.get?_push_of_some _ x)⟩
end
section
variable{Z:SA}{w:World}{hd:Bool}{X:Addr→Prop}{γ γ' γ₁ γ₂:Gh}{h h':Heap}{s s' s₁ s₂:Shared}{H H':HT}{n n' N:Nat}{A:Around}{env:Env}{l l':FL}{k kx:KV}{ks ks':KS}{sc:List (PS × NameKind)}
theorem Kp.takeG{a:Addr}(o:Ow)(K:Kp X γ h γ₁ h')(e:h.objs.size≤a)(fr:γ₁.own a≠.exn):Kp X γ h (γ₁.take a o) h' :=
 ⟨K.size,fun b hb=>by rw [Gh.take_ne _ _ (Nat.ne_of_lt (Nat.lt_of_lt_of_le hb e))];exact K.own b hb,K.free,K.env,K.itr,fun b ob fs x y z=>by obtain⟨f,p,q,r,tb⟩:=K.exn b ob fs x y z;exact⟨f,p,q,r.imp id (fun⟨r1,⟨c,r2,r3,r4⟩⟩=>⟨r1,⟨c,r2,r3,r4.take o (Nat.lt_of_lt_of_le (Nat.lt_trans r3 (Heap.lt_size x)) e)⟩⟩),fun t=>by obtain⟨T,oT,ts,u1,u2,u3,u4,u5,u6⟩:=tb t;exact⟨T,oT,ts,u1,(Gh.take_ne _ _ (fun v=>fr (by rw [← v];exact u2))).trans u2,u3,u4,u5,u6⟩⟩,K.sg,K.rho,K.pre,K.scr,K.obi⟩
theorem Sm.more2(R:Rel Z w γ H n s)(keep:∀ b o,s.heap.get? b=some o→h'.get? b=some o){a b:Addr}(la:s.heap.objs.size≤a)(lb:s.heap.objs.size≤b)(lt:a < h'.objs.size)(lt':b < h'.objs.size){t:Nat}(ht:s.toks≤t) :
  Sm γ s ((γ.take a .it).take b .it) { s with heap:=h',toks:=t }:=by
 have hz:s.heap.objs.size≤h'.objs.size:=Nat.le_trans la (Nat.le_of_lt lt)
 have K1:Kp NX γ s.heap (γ.take a .it) h':=(Kp.more keep hz).take _ la (by rw [R.freshFree la];exact Ow.noConfusion)
 have hb:(γ.take a .it).own b≠.exn:=by
  by_cases q:b=a
  ·rw [q,Gh.take_self];exact Ow.noConfusion
  ·rw [Gh.take_ne _ _ q,R.freshFree lb];exact Ow.noConfusion
 refine ⟨K1.takeG _ lb hb,⟨rfl,rfl⟩,fun c i p q=>?_,fun c i p=>?_,fun c q=>?_,rfl,rfl,⟨rfl,rfl,rfl⟩,ht⟩
 ·obtain⟨o,g⟩:=R.there q
  rw [g];exact keep _ _ g
 ·by_cases q:c=b
  ·subst q;rw [Gh.take_self,R.freshFree lb]
   constructor <;> (intro z;cases z)
  ·rw [Gh.take_ne _ _ q]
   by_cases q:c=a
   ·subst q;rw [Gh.take_self,R.freshFree la]
    constructor <;> (intro z;cases z)
   ·rw [Gh.take_ne _ _ q]
 ·by_cases z:c=b
  ·rw [z];exact lt'
  ·rw [Gh.take_ne _ _ z] at q
   by_cases z:c=a
   ·rw [z];exact lt
   ·rw [Gh.take_ne _ _ z] at q;exact Nat.lt_of_lt_of_le (R.bnd c q) hz
theorem SmX.iters{I:Addr→Prop}(R:Rel Z w γ H n s)(ow:∀ b,I b→γ.own b=.it)(hz:s.heap.objs.size≤h'.objs.size)(k:∀ b o,¬ I b→s.heap.get? b=some o→h'.get? b=some o){t:Nat}(ht:s.toks≤t):SmX I γ s γ { s with heap:=h',toks:=t }:=by
 have ne:∀ b,γ.own b≠.it→¬ I b:=fun b q z=>q (ow b z)
 refine ⟨⟨hz,fun _ _=>rfl,fun b o e f=>k b o (ne b (by rw [f];exact Ow.noConfusion)) e,fun b o e f _=>⟨o.slots,k b o (ne b (by rw [f];exact Ow.noConfusion)) e⟩,fun b o e f nx=>k b o nx e,fun b o fs e f d=>.same (k b o (ne b (by rw [f];exact Ow.noConfusion)) e) d (TbOk.keep (fun b o' e f=>k b o' (ne b (by rw [f];exact Ow.noConfusion)) e) fun _ _=>rfl),fun _ _ e=>⟨e,rfl⟩,fun _ _ e=>e,fun _ _=>rfl,rfl,fun _ e=>e⟩,
  ⟨rfl,rfl⟩,fun b i p e=>?_,fun _ _ _=>Iff.rfl,fun b q=>Nat.lt_of_lt_of_le (R.bnd b q) hz,rfl,rfl,⟨rfl,rfl,rfl⟩,ht⟩
 obtain⟨o,g⟩:=R.there e
 rw [g];exact k b o (ne b (by rw [e];exact Ow.noConfusion)) g
inductive EnR(Z:SA)(γ:Gh)(h:Heap)(e it:Addr):It→Prop
 | lst {id j:Nat} {a:Addr} {old:Value}:γ.own a=.obj id 0→h.IsListIter it a j→IsEnum h e it (j:Int) old→EnR Z γ h e it (.enuL j id j)
 | tup {vs:VL} {t:Addr} {ws:List Value} {n j:Nat} {old:Value}:h.get? t=some ⟨.type "tuple",none,.seq ws.toArray n,#[]⟩→γ.own t=.free→IsTupIter h it t j→VRs Z γ h vs (ws.drop j)→IsEnum h e it (j:Int) old→EnR Z γ h e it (.enuV j vs)
theorem nat_in(j:Nat){t:Tok}(ht:t≠0):VR Z γ h (natV j) (.int (j:Int) t):=.int _ t ht
theorem enOK{xs:List Nat}{es:List PX}{i:Nat}{p:Pos}{e it:Addr}(ne:e≠it):ItOK Z w (.Tuple es i p) (.ref e) (fun b=>b=e∨b=it) (fun i γ h=>EnR Z γ h e it i) where
 mono K bnd hI x:=by
  obtain⟨o1,n1⟩:=hI e (.inl rfl)
  obtain⟨o2,n2⟩:=hI it (.inr rfl)
  cases x with
  | lst o g q =>
   obtain⟨ob,g1,r⟩:=g
   exact .lst ((K.own _ (bnd _ (by rw [o];exact Ow.noConfusion))).trans o) ⟨ob,K.itr _ _ g1 o2 n2,r⟩ (K.itr _ _ q o1 n1)
  | tup g f i v q =>
   obtain⟨ob,g1,r⟩:=i
   exact .tup (K.free _ _ g f) (K.ownFree g f) ⟨ob,K.itr _ _ g1 o2 n2,r⟩ (v.mono K bnd) (K.itr _ _ q o1 n1)
 turn:=by
  intro A hd γ s H n i kn ksf E hh R hI x q
  have oe:=hI e (.inl rfl)
  have oi:=hI it (.inr rfl)
  cases x with
  | @lst id j a old o hit he =>
   obtain⟨vs,e0,q⟩:=lst0_spec (show Mine.lst0 (H.get id) _=true from q)
   obtain⟨ws,m,g,v1,l1⟩:=R.lst0 e0 o
   have L:=isList_of g
   have nea:a≠e:=fun z=>by rw [z,oe] at o;cases o
   refine enumNext he fun A' hA=>?_
   have hh':HdOk A' hd γ s.heap:=⟨fun z=>hA.trans (hh.1 z),by rw [hA];exact hh.2⟩
   cases hv:VL.at vs j with
   | some v =>
    rw [hv] at q
    have q:ksf (.tup [natV j,v]) (.enuL (j + 1) id (j + 1))=true:=q
    rw [at_eq] at hv
    obtain⟨rv,e3,vr⟩:=v1.getV hv
    refine wpAny_nextOf_list_item hit L (x:=rv) (by simpa using e3) fun h1 hit1 hs1=>⟨h1,rfl,hs1,hs1.2 e ne,fun h' out k' t' z'=>?_⟩
    refine wpAny_letOwnedTupleGo_enum (s:={ s with heap:=h',toks:=s.toks + 1 }) out fun h2 he2 hs2=>?_
    have lt:=Heap.lt_size he
    have S:SmX (fun b=>b=e∨b=it) γ s γ { s with heap:=h2,toks:=s.toks + 1 }:=SmX.iters R hI (by rw [hs2.1];show s.heap.objs.size≤h'.objs.size;rw [z'];exact Nat.le_succ _) (fun b o nb gb=>(hs2.2 b (fun z=>nb (.inl z))).trans (k' b o (fun z=>nb (.inl z)) ((hs1.2 b (fun z=>nb (.inr z))).trans gb))) (Nat.le_succ _)
    refine ⟨S,_,_,q,.tup (n:=0) (ws:=[.int j s.toks,rv]) ((hs2.2 _ (Nat.ne_of_gt lt)).trans t') (R.freshFree (Nat.le_refl _)) (.cons (nat_in j R.tkn) (.cons (vr.mono S.K R.bnd) .nil)),.lst o ?_ (by exact he2)⟩
    obtain⟨ob,g1,r⟩:=hit1
    exact⟨ob,(hs2.2 _ (Ne.symm ne)).trans (k' _ _ (Ne.symm ne) g1),r⟩
   | none =>
    rw [hv] at q
    rw [at_eq] at hv
    have hx:ws.toArray[j]?=none:=by
     have:vs.length≤j:=List.getElem?_eq_none_iff.mp hv
     rw [v1.len] at this
     simpa using this
    exact inner_list_end hh' (by rw [oi];exact Ow.noConfusion) hit L hx fun h' a k g=>⟨a,rfl,g,SmX.iters R hI k.size (fun b o nb gb=>k.keep b o (fun z=>nb (.inr z)) gb) (Nat.le_refl _),q⟩
  | @tup vs t ws nn j old g f hit v1 he =>
   have T:IsTup s.heap t ws.toArray:=⟨_,g,rfl,_,rfl⟩
   have ne1:t≠e:=fun z=>by rw [z,oe] at f;cases f
   have ne2:t≠it:=fun z=>by rw [z,oi] at f;cases f
   refine enumNext he fun A' hA=>?_
   have hh':HdOk A' hd γ s.heap:=⟨fun z=>hA.trans (hh.1 z),by rw [hA];exact hh.2⟩
   cases vs with
   | nil =>
    have hx:ws.toArray[j]?=none:=by
     generalize hd:ws.drop j=dj at v1
     cases v1
     have:ws.length≤j:=List.drop_eq_nil_iff.mp hd
     simpa using this
    exact inner_tuple_end hh' (by rw [oi];exact Ow.noConfusion) hit T hx fun h' a k g=>⟨a,rfl,g,SmX.iters R hI k.size (fun b o nb gb=>k.keep b o (fun z=>nb (.inr z)) gb) (Nat.le_refl _),q⟩
   | cons v r =>
    generalize hd:ws.drop j=dj at v1
    obtain⟨rv,rest,rfl,vr,v2⟩:=v1.consI
    have lt:j < ws.length:=by
     rcases Nat.lt_or_ge j ws.length with h | h
     ·exact h
     ·rw [List.drop_eq_nil_iff.mpr h] at hd;cases hd
    rw [List.drop_eq_getElem_cons lt] at hd
    injection hd with hd1 hd2
    have q:ksf (.tup [natV j,v]) (.enuV (j + 1) r)=true:=q
    refine inner_tuple_item hit T (x:=rv) (by simp [lt,hd1]) fun h1 hit1 hs1=>⟨h1,rfl,hs1,hs1.2 e ne,fun h' out k' t' z'=>?_⟩
    refine wpAny_letOwnedTupleGo_enum (s:={ s with heap:=h',toks:=s.toks + 1 }) out fun h2 he2 hs2=>?_
    have lt:=Heap.lt_size he
    have S:SmX (fun b=>b=e∨b=it) γ s γ { s with heap:=h2,toks:=s.toks + 1 }:=SmX.iters R hI (by rw [hs2.1];show s.heap.objs.size≤h'.objs.size;rw [z'];exact Nat.le_succ _) (fun b o nb gb=>(hs2.2 b (fun z=>nb (.inl z))).trans (k' b o (fun z=>nb (.inl z)) ((hs1.2 b (fun z=>nb (.inr z))).trans gb))) (Nat.le_succ _)
    refine ⟨S,_,_,q,.tup (n:=0) (ws:=[.int j s.toks,rv]) ((hs2.2 _ (Nat.ne_of_gt lt)).trans t') (R.freshFree (Nat.le_refl _)) (.cons (nat_in j R.tkn) (.cons (vr.mono S.K R.bnd) .nil)),.tup (S.K.free _ _ g f) f ?_ (by rw [hd2];exact v2.mono S.K R.bnd) (by exact he2)⟩
    obtain⟨ob,g1,r⟩:=hit1
    exact⟨ob,(hs2.2 _ (Ne.symm ne)).trans (k' _ _ (Ne.symm ne) g1),r⟩
end
end Mine
end
section
open PySem renaming Expr→PX,Str→PS
open PySem PySem.W PySem.Calls PyProof.Rows PySem.SeqAt
namespace Mine
section
variable{Z:SA}{w:World}{hd:Bool}{X:Addr→Prop}{γ γ' γ₁ γ₂:Gh}{h h':Heap}{s s' s₁ s₂:Shared}{H H':HT}{n n' N:Nat}{A:Around}{env:Env}{l l':FL}{k kx:KV}{ks ks':KS}{sc:List (PS × NameKind)}
theorem callEnum_ok{E:Value→Shared→Prop}(R:Rel Z w γ H n s){v:V}{rv:Value}{kk:It→Bool}(q:enumOf v H kk=true)(vr:VR Z γ s.heap v rv) :
  wpAny (model prog w) A (PySem.call (.type "enumerate") [rv]) (fun ev s'=>∃ i e it γ',ev=.ref e∧e≠it∧kk i=true∧Sm γ s γ' s'∧γ'.own e=.it∧γ'.own it=.it∧s.heap.objs.size≤e∧s.heap.objs.size≤it∧EnR Z γ' s'.heap e it i∧∃ c old,IsEnum s'.heap e it c old) E s:=by
 have ne:s.heap.objs.size + 1≠s.heap.objs.size:=Nat.succ_ne_self _
 have ow1:((γ.take s.heap.objs.size .it).take (s.heap.objs.size + 1) .it).own (s.heap.objs.size + 1)=.it:=Gh.take_self ..
 have ow2:((γ.take s.heap.objs.size .it).take (s.heap.objs.size + 1) .it).own s.heap.objs.size=.it:=(Gh.take_ne _ _ (Ne.symm ne)).trans (Gh.take_self ..)
 cases v with
 | ref i =>
  obtain⟨ad,rfl,o⟩:=vr
  obtain⟨vs,e,q⟩:=lst0_spec q
  obtain⟨ws,m,g,v1,l1⟩:=R.lst0 e o
  refine call_enumerate_1 g fun h' e1 e2 z k=>?_
  have S:=Sm.more2 R (h':=h') (a:=s.heap.objs.size) (b:=s.heap.objs.size + 1) k (Nat.le_refl _) (Nat.le_succ _) (by rw [z];exact Nat.lt_succ_of_lt (Nat.lt_succ_self _)) (by rw [z];exact Nat.lt_succ_self _) (Nat.le_refl s.toks)
  exact⟨_,_,_,_,rfl,ne,q,S,ow1,ow2,Nat.le_succ _,Nat.le_refl _,.lst (j:=0) ((S.own _ _ _).mpr o) e2 e1,_,_,e1⟩
 | tup vs =>
  obtain⟨ws,t,m,rfl,g,f,v1⟩:=vr.tupI
  refine call_enumT g fun h' e1 e2 z k=>?_
  have S:=Sm.more2 R (h':=h') (a:=s.heap.objs.size) (b:=s.heap.objs.size + 1) k (Nat.le_refl _) (Nat.le_succ _) (by rw [z];exact Nat.lt_succ_of_lt (Nat.lt_succ_self _)) (by rw [z];exact Nat.lt_succ_self _) (Nat.le_refl s.toks)
  exact⟨_,_,_,_,rfl,ne,q,S,ow1,ow2,Nat.le_succ _,Nat.le_refl _,.tup (j:=0) (S.K.free _ _ g f) (S.K.ownFree g f) e2 (by rw [List.drop_zero];exact v1.mono S.K R.bnd) e1,_,_,e1⟩
 | _=>exact ff q
theorem sS_forE{xs:List Nat}{es:List PX}{i:Nat}{tp p p':Pos}{fE argE:PX}{m:EM}{b:SM}{body:List Stmt}(T:NmsE sc xs es)(g:SndE Z w sc (Xg (.a (.blt 6))) fE)(x:SndE Z w sc m argE)(y:SndS Z w sc b body)(hp:plainE argE=true)
  (he:∀ env,eval (.Call fE [argE] [] p') env=(do callWith p' (← eval fE env) [] (backTo p' (starEach [argE] env)) (backToKw p' (keywordEach [] env)))) (hs:∀ env x,foldedSetIterable (.Call fE [argE] [] p') env x=pure x) :
  SndS1 Z w sc (sForE (.many xs) m b) (.For (.Tuple es i tp) (.Call fE [argE] [] p') body [] p):=fun N hd A env l H n ks γ s P q=>by
 have q:m (mk fnT FDeed N hd) l H n (fun v h n=>enumOf v h fun i=>foL (.many xs) b (mk fnT FDeed N hd) ks 60 i l h n) (fun e h n=>ks.xc e l h n)=true:=q
 have ys:SndEs Z w sc (Xc m Xn) [argE]:=ss_cons x ss_nil hp
 refine wpAny_For ?_ (hs env)
 refine Call_ (wpAny_mono (g.glo P) (fun rf s1 z=>?_) fun _ _ z=>z) (he env)
 obtain⟨γ1,R1,K1,vr,F1⟩:=z
 obtain rfl:rf=bltV 6:=vr
 have P1:=P.go K1 R1
 refine callWith_of (P:=fun h=>KeepJ w h (bltV 6)) (by rw [ys.1 env p'];rfl) (fun h x=>x) (evalArgs_spliced (ys.1 env p') ?_)
 refine wpAny_mono (ys.2 N hd A env l H n (fun vs h n=>match vs with | [v]=>enumOf v h fun i=>foL (.many xs) b (mk fnT FDeed N hd) ks 60 i l h n | _=>false) _ γ1 s1 p' P1 q) (fun rvs s2 z=>?_) fun e s' z=>(z.toE P1).up K1.nx F1
 obtain⟨vs,H2,n2,γ2,q2,R2,K2,vrs,_,F2⟩:=z
 have P2:=P1.go K2 R2
 refine ⟨⟨.machine,.inr (.inl rfl),.now⟩,?_⟩
 match vs,q2,vrs with
 | [v0],q2,vrs =>
  obtain⟨rv,rfl,vr0⟩:=vrs1 vrs
  refine wpAny_mono (callEnum_ok R2 q2 vr0) (fun ev s3 z=>?_) fun _ _ z=>z
  obtain⟨i0,e0,it0,γ3,rfl,ne,q3,S3,o1,o2,l1,l2,en,c,old,ie⟩:=z
  refine wpAny_pyIter_enum ie ?_
  refine for_ok (.many T) y (enOK (xs:=xs) ne) P ((K1.trans K2).trans S3.K).nx ((F1.trans F2).trans S3.fro) (P2.sm S3) (fun b hb=>?_) en q3
  have le:s.heap.objs.size≤s2.heap.objs.size:=Nat.le_trans K1.size K2.size
  rcases hb with rfl | rfl
  ·exact⟨o1,Nat.le_trans le l1⟩
  ·exact⟨o2,Nat.le_trans le l2⟩
 | [],q2,_=>exact ff q2
 | _ :: _ :: _,q2,_=>exact ff q2
end
section
variable{Z:SA}{w:World}{hd:Bool}{X:Addr→Prop}{γ γ' γ₁ γ₂:Gh}{h h':Heap}{s s' s₁ s₂:Shared}{H H':HT}{n n' N:Nat}{A:Around}{env:Env}{l l':FL}{k kx:KV}{ks ks':KS}{sc:List (PS × NameKind)}
theorem EnvR.monoX(K:Kp X γ h γ' h')(nx:∀ b,Xs env b→¬ X b)(bnd:∀ b,γ.own b≠.free→b < h.objs.size)(x:EnvR Z γ h env l):EnvR Z γ' h' env l:=x.monoG K (fun b o e f q=>K.env b o e f (nx b q)) bnd
set_option tactic.hygienic true in
theorem sS_asgC{mi melt:EM}{t:TGT}{fr:List Nat}{eltE target iterE:PX}{scope:Scope}{pos:Pos}{i:Nat}{xn:PS}{xp p:Pos}
  (T:TgtE scope.names t target) (x:SndE Z w sc mi iterE) (y:SndE Z w scope.names melt eltE) (hc:compScOk sc scope fr t=true) (hs:∀ env x,foldedSetIterable iterE env x=pure x) (ei:nmS i=xn) (hst:(decide (i < names.length) && sc.lookup (nmS i) == some .local)=true)
  (hw:∀ env:Env,env.scope.kind=.function→env.kindOf xn=some .local→swapsWith (.ListComp eltE [⟨target,iterE,[],0⟩] scope pos) (some (.Name xn xp)) p.line env=pure true) :
  SndS1 Z w sc (sAsg i (eComp melt t mi fr)) (.Assign [.Name xn xp] (.ListComp eltE [⟨target,iterE,[],0⟩] scope pos) p):=fun N hd A env l H n ks γ s P q=>by
 subst ei
 simp only [Bool.and_eq_true,decide_eq_true_eq,beq_iff_eq] at hst
 obtain⟨hx,hst⟩:=hst
 have hkd:=P.ec _ _ hst (by intro z;cases z)
 rw [exec_Assign_Name_used _ _ _ _ (hw env P.es.kind hkd)]
 refine wpAny_bind (wpAny_standAt (wpAny_bind ?_))
 show wpAny _ A (do let _ ← comprehension (.ListComp eltE [⟨target,iterE,[],0⟩] scope pos) scope env _ (newList []) false (eval iterE env) (some (assign (.Name (nmS i) xp) env))) _ _ s
 refine wpAny_bind (wpAny_mono (comp_any (use:=some (assign (.Name (nmS i) xp) env)) (Q:=fun _ s'=>PostF Z w env γ s ks .next s') (E:=PostE Z w env γ s ks) (k:=fun v h n=>l.setK i v fun l'=>ks.nx l' h n) (kx:=fun e h n=>ks.xc e l h n) T x y hc hs P q (fun e s' z=>z.toE P) ?_) (fun _ s' hq=>wpAny_pure (wpAny_pure hq)) fun _ _ e=>e)
 intro ra C r sx ce lC hC z
 cases r with
 | error e=>exact z.elim
 | ok f =>
  obtain⟨_,v6,H6,n6,γ6,l6,q6,R6,K6,vr6,en6,F6⟩:=z
  obtain⟨m6,hn6,ho6,_⟩:=en6
  rw [hC] at hn6 ho6
  have P6:=P.go K6 R6
  have nX:¬ Xs env C:=by
   obtain⟨m,hn,ho,hcl,_⟩:=P.e
   rintro (rfl | ⟨y,hy⟩)
   ·exact absurd hn.lt (Nat.not_lt.mpr lC)
   ·obtain⟨oc,_,g,_⟩:=hcl.at_ y C hy
    exact absurd (Heap.lt_size g) (Nat.not_lt.mpr lC)
  refine assign_Name (wpAny_mono (store_ok (X:=Xs env) P.es P6.r P6.e hx (.inl hkd) vr6 q6 (xs1 env) (xs2 env _)) (fun _ s7 z=>?_) fun _ _ z=>z)
  obtain⟨l7,q7,R7,K7,e7,F7⟩:=z
  refine ⟨m6,K7.nsEnv hn6 ho6 nX,fun h' hs'=>?_⟩
  have ho7:γ6.own C=.env:=ho6
  have K8:Kp (fun b=>b=C) γ6 s7.heap γ6 h':=.butX ho7 rfl hs'
  have lC':C < s7.heap.objs.size:=by obtain⟨o,_,_,g,_⟩:=K7.nsEnv hn6 ho6 nX;exact Heap.lt_size g
  refine ⟨l7,H6,n6,γ6,q7,R7.butX ho7 hs' (Nat.le_refl _),?_,?_,(F6.trans F7).hq⟩
  ·exact (((K6.nx (X:=fun b=>Xs env b∨b=C)).trans (K7.xs fun b h=>.inl h)).trans (K8.xs fun b h=>.inr h)).widen fun b hb=>hb.imp id fun z=>by rw [z];exact lC
  ·exact e7.monoX K8 (fun b hb z=>nX (by rw [← z];exact hb)) R7.bnd
end
section
variable{Z:SA}{w:World}{hd:Bool}{X:Addr→Prop}{γ γ' γ₁ γ₂:Gh}{h h':Heap}{s s' s₁ s₂:Shared}{H H':HT}{n n' N:Nat}{A:Around}{env:Env}{l l':FL}{k kx:KV}{ks ks':KS}{sc:List (PS × NameKind)}
theorem Sm.fresh(R:Rel Z w γ H n s)(f:Addr→Ow)(keep:∀ b o,s.heap.get? b=some o→h'.get? b=some o)(hz:s.heap.objs.size≤h'.objs.size)(hf:∀ b,b < s.heap.objs.size→f b=γ.own b)(hn:∀ b i p,s.heap.objs.size≤b→f b≠.obj i p)(hb:∀ b,f b≠.free→b < h'.objs.size){t:Nat}(ht:s.toks≤t) :
  Sm γ s { γ with own:=f } { s with heap:=h',toks:=t }:=by
 refine ⟨⟨hz,hf,fun b o e _=>keep b o e,fun b o e _ _=>⟨o.slots,keep b o e⟩,fun b o e _ _=>keep b o e,fun b o fs e _ d=>.same (keep b o e) d (TbOk.keep (fun b o e _=>keep b o e) hf),fun _ _ e=>⟨e,rfl⟩,fun _ _ e=>e,fun _ _=>rfl,rfl,fun _ e=>e⟩,
  ⟨rfl,rfl⟩,fun b i p q=>?_,fun b i p=>?_,hb,rfl,rfl,⟨rfl,rfl,rfl⟩,ht⟩
 ·obtain⟨o,g⟩:=R.there q
  rw [g];exact keep _ _ g
 ·show f b=_↔_
  by_cases q:b < s.heap.objs.size
  ·rw [hf b q]
  ·have q:=Nat.not_lt.mp q
   rw [R.freshFree q]
   exact⟨fun z=>absurd z (hn b i p q),fun z=>by cases z⟩
set_option tactic.hygienic true in
theorem cellsFrom_has:∀ (names:List (PS × NameKind)) (n:Nat) (acc:List (PS × Addr)) (x:PS),((x,NameKind.cell)∈names∨(acc.lookup x).isSome=true)→((cellsFrom n names acc).lookup x).isSome=true
 | [],n,acc,x,h=>h.elim (fun z=>nomatch z) id
 | (y,k) :: r,n,acc,x,h=>by
  unfold cellsFrom
  split
  ·refine cellsFrom_has r _ _ x ?_
   rcases h with h | h
   ·rcases List.mem_cons.mp h with e | h
    ·cases e;exact .inr (by simp [List.lookup_cons])
    ·exact .inl h
   ·refine .inr ?_
    rw [List.lookup_cons]
    split
    ·rfl
    ·exact h
  ·rename_i hk
   refine cellsFrom_has r _ _ x ?_
   rcases h with h | h
   ·rcases List.mem_cons.mp h with e | h
    ·cases e;exact absurd rfl hk
    ·exact .inl h
   ·exact .inr h
set_option tactic.hygienic true in
theorem cellsFrom_from:∀ (names:List (PS × NameKind)) (h:Heap) (acc:List (PS × Addr)) (x:PS) (c:Addr),(x,c)∈cellsFrom h.objs.size names acc →
  (x,c)∈acc∨((x,NameKind.cell)∈names∧h.objs.size≤c∧(pushCells h names).get? c=some { cls:=.type "cell",data:=.cell none })
 | [],h,acc,x,c,e=>.inl e
 | (y,k) :: r,h,acc,x,c,e=>by
  unfold cellsFrom at e
  unfold pushCells
  split at e
  ·rename_i hk
   rw [if_pos hk]
   have:=cellsFrom_from r (h.push { cls:=.type "cell",data:=.cell none }) ((y,h.objs.size) :: acc) x c (by rw [Heap.size_push];exact e)
   rcases this with e | ⟨a,b,d⟩
   ·rcases List.mem_cons.mp e with e | e
    ·cases e
     have hk:k=.cell:=by simpa using hk
     subst hk
     exact .inr ⟨.head _,Nat.le_refl _,pushCells_keeps _ _ _ _ (Heap.get?_push_size _ rfl)⟩
    ·exact .inl e
   ·rw [Heap.size_push] at b
    exact .inr ⟨.tail _ a,Nat.le_of_succ_le b,d⟩
  ·rename_i hk
   rw [if_neg hk]
   rcases cellsFrom_from r h acc x c e with e | ⟨a,b,d⟩
   ·exact .inl e
   ·exact .inr ⟨.tail _ a,b,d⟩
theorem pushCells_size:∀ (names:List (PS × NameKind)) (h:Heap),h.objs.size≤(pushCells h names).objs.size
 | [],_=>Nat.le_refl _
 | (_,k) :: r,h=>by
  unfold pushCells
  split
  ·exact Nat.le_trans (by rw [Heap.size_push];exact Nat.le_succ _) (pushCells_size r _)
  ·exact pushCells_size r h
theorem cellsFrom_apart:∀ (names:List (PS × NameKind)) (n:Nat) (acc:List (PS × Addr)),(acc.Pairwise fun x y=>x.2≠y.2)→(∀ p∈acc,p.2 < n)→((cellsFrom n names acc).Pairwise fun x y=>x.2≠y.2)
 | [],_,_,h,_=>h
 | (y,k) :: r,n,acc,h,lt=>by
  unfold cellsFrom
  split
  ·refine cellsFrom_apart r _ _ (List.pairwise_cons.mpr ⟨fun p hp e=>?_,h⟩) fun p hp=>?_
   ·have:=lt p hp;rw [← e] at this;exact Nat.lt_irrefl _ this
   ·rcases List.mem_cons.mp hp with rfl | hp
    ·exact Nat.lt_succ_self _
    ·exact Nat.lt_succ_of_lt (lt p hp)
  ·exact cellsFrom_apart r n acc h lt
inductive PB(Z:SA)(γ:Gh)(h:Heap):FL→List (PS × Value)→Prop
 | nil:PB Z γ h .nil []
 | cons {x:Nat} {v:V} {rv:Value} {l:FL} {bs:List (PS × Value)}:x < names.length→VR Z γ h v rv→l.look x=none→PB Z γ h l bs→PB Z γ h (.cons x v l) ((nmS x,rv) :: bs)
theorem PB.mono(K:Kp X γ h γ' h')(bnd:∀ b,γ.own b≠.free→b < h.objs.size){bs:List (PS × Value)}(x:PB Z γ h l bs):PB Z γ' h' l bs:=by
 induction x with
 | nil=>exact .nil
 | cons a b c _ ih=>exact .cons a (b.mono K bnd) c ih
theorem binds_ok{f:PS × Value→PUnit→Sem (ForInStep PUnit)}(hf:∀ n v u,f (n,v) u=(do storeName env n v;pure (.yield ⟨⟩)))(es:EnvS env){E:Value→Shared→Prop} :
  ∀ (bs:List (PS × Value)) (l l0:FL) (s:Shared),(∀ p∈bs,env.kindOf p.1=some .local∨env.kindOf p.1=some .cell)→PB Z γ s.heap l bs→Rel Z w γ H n s→EnvR Z γ s.heap env l0→∀ (Q:PUnit→Shared→Prop),
   (∀ s' l1,(∀ y,l1.look y=(l.look y).or (l0.look y))→Stored Z w env (Xs env) γ H n s l1 s'→Q ⟨⟩ s')→wpAny (model prog w) A (forIn bs ⟨⟩ f) Q E s
 | [],l,l0,s,_,B,R,en,Q,q=>by
  cases B
  rw [List.forIn_nil]
  exact wpAny_pure (q s l0 (fun y=>rfl) ⟨R,.refl ..,en,.refl _⟩)
 | (y,v) :: r,l,l0,s,hk,B,R,en,Q,q=>by
  cases B with | @cons x v0 _ l2 _ hx vr nl B2 =>
  rw [List.forIn_cons,hf]
  refine wpAny_bind (wpAny_bind (wpAny_mono (store_look (X:=Xs env) (l':=.cons x v0 l0) es R en hx (hk _ (.head _)) vr (fun z=>by
   rw [FL.look_cons]
   by_cases h:x=z
   ·rw [if_pos h,if_pos h.symm]
   ·rw [if_neg h,if_neg (Ne.symm h)]) (xs1 env) (xs2 env _)) (fun _ s1 z=>?_) fun _ _ z=>z))
  obtain⟨R1,K1,en1,F1⟩:=z
  refine wpAny_pure (binds_ok hf es r l2 _ s1 (fun p hp=>hk p (.tail _ hp)) (B2.mono K1 R.bnd) R1 en1 Q fun s' l1 hl st=>?_)
  refine q s' l1 (fun z=>?_) ⟨st.1,K1.trans st.2,st.3,F1.trans st.4⟩
  rw [hl,FL.look_cons,FL.look_cons]
  by_cases h:x=z
  ·subst h;rw [if_pos rfl,if_pos rfl,nl];rfl
  ·rw [if_neg h,if_neg h]
end
section
variable{Z:SA}{w:World}{hd:Bool}{X:Addr→Prop}{γ γ' γ₁ γ₂:Gh}{h h':Heap}{s s' s₁ s₂:Shared}{H H':HT}{n n' N:Nat}{A:Around}{env:Env}{l l':FL}{k kx:KV}{ks ks':KS}{sc:List (PS × NameKind)}
structure ClR(γ:Gh)(h:Heap)(scope:Scope)(cl:List (PS × Addr)):Prop where
 at_:∀ p∈cl,∃ oc v,h.get? p.2=some oc∧oc.data=.cell v∧γ.own p.2=.free
 apart:cl.Pairwise fun x y=>x.2≠y.2
 kind:∀ p∈cl,(p.1,NameKind.cell)∉scope.names
set_option tactic.hygienic true in
theorem cellsFrom_lookup:∀ (names:List (PS × NameKind)) (n:Nat) (acc:List (PS × Addr)) (x:PS),(x,NameKind.cell)∉names→(cellsFrom n names acc).lookup x=acc.lookup x
 | [],_,_,_,_=>rfl
 | (y,k) :: r,n,acc,x,h=>by
  unfold cellsFrom
  have hr:(x,NameKind.cell)∉r:=fun z=>h (.tail _ z)
  split
  ·rename_i hk
   have hk:k=.cell:=by simpa using hk
   subst hk
   rw [cellsFrom_lookup r _ _ x hr,List.lookup_cons]
   have:(x == y)=false:=by
    rw [beq_eq_false_iff_ne];intro z;subst z;exact h (.head _)
   rw [this]
  ·exact cellsFrom_lookup r n acc x hr
theorem Kp.widenF{X':Addr→Prop}(x:Kp X' γ h γ₁ h₁)(k:∀ b,X' b→X b∨h.objs.size≤b∨γ.own b=.free):Kp X γ h γ₁ h₁:=by
 have key:∀ b o,h.get? b=some o→γ.own b≠.free→¬ X b→¬ X' b:=fun b o e f nx q=>(k b q).elim nx fun z=>z.elim (fun le=>absurd (Heap.lt_size e) (Nat.not_lt.mpr le)) f
 exact⟨x.size,x.own,x.free,fun b o e f nx=>x.env b o e f (key b o e (by rw [f];exact Ow.noConfusion) nx),fun b o e f nx=>x.itr b o e f (key b o e (by rw [f];exact Ow.noConfusion) nx),x.exn,x.sg,x.rho,x.pre,x.scr,x.obi⟩
theorem newEnv_ok{scope:Scope}{qual:PS}{func:Option Addr}{code:Value}{cl:List (PS × Addr)}{bs:List (PS × Value)}{l l0:FL}{Q:Env→Shared→Prop}{E:Value→Shared→Prop}(R:Rel Z w γ H n s)(hk:scope.kind=.function)(C:ClR γ s.heap scope cl)
  (hb:∀ p∈bs,scope.names.lookup p.1=some .local∨scope.names.lookup p.1=some .cell) (B:PB Z γ s.heap l bs)
  (hl0:∀ x v,l0.look x=some v→x < names.length∧scope.names.lookup (nmS x)=some .free∧∃ c oc rv,(nmS x,c)∈cl∧cl.lookup (nmS x)=some c∧s.heap.get? c=some oc∧oc.data=.cell (some rv)∧VR Z γ s.heap v rv)
  (q:∀ env s' γ' l1,env.scope=scope→env.frame=some env.locals→EnvS env→(∀ y,l1.look y=(l.look y).or (l0.look y))→Rel Z w γ' H n s'→Kp NX γ s.heap γ' s'.heap→EnvR Z γ' s'.heap env l1→(∀ b,Xs env b→s.heap.objs.size≤b∨γ.own b=.free)→γ'.own env.locals=.env→(∀ b,s.heap.objs.size≤b→γ.own b=.free)→Fro s s'→Q env s') :
  wpAny (model prog w) A (newFunctionEnv scope mainGlobals cl bs qual func code none builtinsNs) Q E s:=by
 simp only [newFunctionEnv,Option.isSome_none,Bool.false_eq_true,if_false]
 refine wpAny_bind (wpAny_alloc ?_)
 refine wpAny_bind (wpAny_layCells _ (fun name kind cells=>by cases hkc:kind == NameKind.cell <;> simp [hkc]) _ _ _ _ ?_)
 rw [show ({ s with heap:=s.heap.push { cls:=.type "frame",data:=.dict #[] } }:Shared).heap.objs.size=s.heap.objs.size + 1 from Heap.size_push ..]
 have sz0:(s.heap.push { cls:=.type "frame",data:=.dict #[] }).objs.size=s.heap.objs.size + 1:=Heap.size_push ..
 have sz1:=pushCells_size scope.names (s.heap.push { cls:=.type "frame",data:=.dict #[] })
 have keep:∀ b o,s.heap.get? b=some o→(pushCells (s.heap.push { cls:=.type "frame",data:=.dict #[] }) scope.names).get? b=some o:=fun b o e=>pushCells_keeps _ _ b o (Heap.get?_push_of_some _ e)
 have from_:=fun x c=>cellsFrom_from scope.names (s.heap.push { cls:=.type "frame",data:=.dict #[] }) cl x c
 rw [sz0] at from_ sz1
 have apart:=cellsFrom_apart scope.names (s.heap.objs.size + 1) cl C.apart fun p hp=>by
  obtain⟨oc,v,g,_⟩:=C.at_ p hp
  exact Nat.lt_succ_of_lt (Heap.lt_size g)
 have has:=fun x=>cellsFrom_has scope.names (s.heap.objs.size + 1) cl x
 have ns0:(pushCells (s.heap.push { cls:=.type "frame",data:=.dict #[] }) scope.names).Ns s.heap.objs.size fun _=>none:=(Heap.Ns.new s.heap (.type "frame")).keeps (pushCells_keeps _ _)
 generalize hh1:pushCells (s.heap.push { cls:=.type "frame",data:=.dict #[] }) scope.names=h1 at keep from_ sz1 ns0 ⊢
 generalize hcs:cellsFrom (s.heap.objs.size + 1) scope.names cl=cs at from_ apart has ⊢
 have le1:s.heap.objs.size≤h1.objs.size:=Nat.le_of_succ_le sz1
 let f:Addr→Ow:=fun b=>if s.heap.objs.size≤b∧b < h1.objs.size then .env else γ.own b
 have f0:∀ b,b < s.heap.objs.size→f b=γ.own b:=fun b hb=>by show (if _ then _ else _)=_;rw [if_neg (fun z=>absurd z.1 (Nat.not_le.mpr hb))]
 have f1:∀ b,s.heap.objs.size≤b→b < h1.objs.size→f b=.env:=fun b h1 h2=>by show (if _ then _ else _)=_;rw [if_pos ⟨h1,h2⟩]
 have S:Sm γ s { γ with own:=f } { s with heap:=h1 }:=Sm.fresh R f keep le1 f0 (fun b i p hb=>by
   show (if _ then _ else _)≠_
   split
   ·exact Ow.noConfusion
   ·rw [R.freshFree hb];exact Ow.noConfusion) (fun b hb=>by
   by_cases z:s.heap.objs.size≤b∧b < h1.objs.size
   ·exact z.2
   ·have:f b=γ.own b:=by show (if _ then _ else _)=_;rw [if_neg z]
    rw [this] at hb
    exact Nat.lt_of_lt_of_le (R.bnd b hb) le1) (Nat.le_refl s.toks)
 have R1:=R.sm S
 have memL:∀ {x c},cs.lookup x=some c→(x,c)∈cs:=fun e=>mem_of_lookup e
 have mem:∀ {x c},cs.lookup x=some c→((x,c)∈cl∧c < s.heap.objs.size)∨((x,NameKind.cell)∈scope.names∧s.heap.objs.size≤c∧c < h1.objs.size∧h1.get? c=some { cls:=.type "cell",data:=.cell none }):=fun {x c} e=>by
  rcases from_ x c (memL e) with z | ⟨a,b,d⟩
  ·obtain⟨oc,v,g,_⟩:=C.at_ _ z;exact .inl ⟨z,Heap.lt_size g⟩
  ·exact .inr ⟨a,Nat.le_of_succ_le b,Heap.lt_size d,d⟩
 let env:Env:={ scope,locals:=s.heap.objs.size,globals:=mainGlobals,cells:=cs,qual,func,code,frame:=some s.heap.objs.size,builtins:=builtinsNs }
 have es:EnvS env:=⟨hk,rfl,rfl,_,rfl⟩
 have oL:f s.heap.objs.size=.env:=f1 _ (Nat.le_refl _) (Nat.lt_of_lt_of_le (Nat.lt_succ_self _) sz1)
 have en:EnvR Z { γ with own:=f } h1 env l0:=by
  refine ⟨_,ns0,oL,⟨fun x c e=>?_,fun x e=>?_,fun x y c e1 e2=>name_of_addr apart (memL e1) (memL e2)⟩,fun x v e=>?_⟩
  ·rcases mem e with ⟨a,b⟩ | ⟨a,b,d,g⟩
   ·obtain⟨oc,v,g,hd,ho⟩:=C.at_ _ a
    exact⟨oc,v,keep _ _ g,hd,.inr ((f0 _ b).trans ho)⟩
   ·exact⟨_,none,g,rfl,.inl (f1 _ b d)⟩
  ·obtain⟨c,hc⟩:=Option.isSome_iff_exists.mp (has x (.inl (lookup_mem (show scope.names.lookup x=some .cell from e))))
   refine ⟨c,hc,?_⟩
   rcases mem hc with ⟨a,b⟩ | ⟨a,b,d,g⟩
   ·exact absurd (lookup_mem (show scope.names.lookup x=some .cell from e)) (C.kind _ a)
   ·exact f1 _ b d
  ·obtain⟨hx,hf,c,oc,rv,hc,hcl,g,hd,vr⟩:=hl0 x v e
   refine ⟨hx,.cel (.inr hf) c oc rv ?_ (keep _ _ g) hd (vr.mono S.K R.bnd)⟩
   show cs.lookup (nmS x)=some c
   obtain⟨c',hc'⟩:=Option.isSome_iff_exists.mp (has (nmS x) (.inr (by rw [hcl];rfl)))
   rcases mem hc' with ⟨a,b⟩ | ⟨a,b,d,g'⟩
   ·rw [hc']
    have:=cellsFrom_lookup scope.names (s.heap.objs.size + 1) cl (nmS x) (C.kind _ hc)
    rw [hcs,hcl,hc'] at this
    exact this
   ·exact absurd a (C.kind _ hc)
 refine wpAny_bind (binds_ok (env:=env) (fun _ _ _=>rfl) es bs l l0 _ hb (B.mono S.K R.bnd) R1 en _ fun s' l1 hl st=>wpAny_pure ?_)
 have xs:∀ b,Xs env b→s.heap.objs.size≤b∨γ.own b=.free:=fun b hb=>by
  rcases hb with rfl | ⟨x,hx⟩
  ·exact .inl (Nat.le_refl _)
  ·rcases mem hx with ⟨a,b⟩ | ⟨a,b,d,g⟩
   ·obtain⟨oc,v,g,hd,ho⟩:=C.at_ _ a
    exact .inr ho
   ·exact .inl b
 exact q env s' _ l1 rfl rfl es hl st.1 ((S.K.nx.trans st.2).widenF fun b hb=>.inr (xs b hb)) st.3 xs oL (fun b hb=>R.freshFree hb) (S.fro.trans st.4)
end
theorem fm_congr{α β:Type}(f g:α→Option β):∀ (l:List α),(∀ x∈l,f x=g x)→l.filterMap f=l.filterMap g
 | [],_=>rfl
 | a :: r,h=>by
  rw [List.filterMap_cons,List.filterMap_cons,h a (.head _),fm_congr f g r fun x hx=>h x (.tail _ hx)]
theorem filterMap_zip:∀ (names:List PS) (vals:List Value),names.Nodup→vals.length=names.length→names.filterMap (fun n=>((names.zip vals).lookup n).map fun x=>(n,x))=names.zip vals
 | [],vals,_,_=>by simp
 | a :: r,[],_,h=>by simp at h
 | a :: r,b :: t,nd,h=>by
  obtain⟨n1,n2⟩:=List.nodup_cons.mp nd
  have ih:=filterMap_zip r t n2 (by simpa using h)
  rw [List.zip_cons_cons,List.filterMap_cons,List.lookup_cons,beq_self_eq_true]
  simp only [Option.map_some]
  congr 1
  refine Eq.trans (fm_congr _ _ r fun n hn=>?_) ih
  rw [List.lookup_cons]
  have:(n == a)=false:=by rw [beq_eq_false_iff_ne];intro z;subst z;exact n1 hn
  rw [this]
theorem lookup_zip_isSome:∀ (names:List PS) (vals:List Value) (n:PS),n∈names→vals.length=names.length→((names.zip vals).lookup n).isSome=true
 | [],_,_,h,_=>nomatch h
 | a :: r,[],_,_,h=>by simp at h
 | a :: r,b :: t,n,hn,h=>by
  rw [List.zip_cons_cons,List.lookup_cons]
  cases e:n == a with
  | true=>rfl
  | false =>
   rcases List.mem_cons.mp hn with z | z
   ·rw [z,beq_self_eq_true] at e;cases e
   ·exact lookup_zip_isSome r t n z (by simpa using h)
theorem lookup_zip_none:∀ (names:List PS) (vals:List Value) (n:PS),n∉names→(names.zip vals).lookup n=none
 | [],_,_,_=>by simp
 | a :: r,[],_,_=>by simp
 | a :: r,b :: t,n,hn=>by
  rw [List.zip_cons_cons,List.lookup_cons]
  have:(n == a)=false:=by rw [beq_eq_false_iff_ne];intro z;subst z;exact hn (.head _)
  rw [this]
  exact lookup_zip_none r t n fun z=>hn (.tail _ z)
structure PlainP(fd:FuncData)(names:List PS):Prop where
 po:fd.params.posonlyargs=[]
 ar:fd.params.args.map (·.arg)=names
 ko:fd.params.kwonlyargs=[]
 va:fd.params.vararg=none
 kw:fd.params.kwarg=none
 nd:names.Nodup
theorem bind_core{fd:FuncData}{names:List PS}{vals:List Value}(hp:fd.params.posonlyargs=[])(ha:fd.params.args.map (·.arg)=names)(hk:fd.params.kwonlyargs=[])(hv:fd.params.vararg=none)(hw:fd.params.kwarg=none)(hl:¬ vals.length > names.length)(dl:List Value)
 (hm:((names.take (names.length - (dl.drop (dl.length - names.length)).length)).filter fun n=>((names.zip vals).lookup n).isNone)=[]) {sl:List (PS × Value)}
 (hf:(forIn ((names.drop (names.length - (dl.drop (dl.length - names.length)).length)).zip (dl.drop (dl.length - names.length))) (names.zip vals) (fun (x:PS × Value) r=>(if (r.lookup x.1).isNone=true then (pure (ForInStep.yield (r ++ [x])):Sem _) else pure (ForInStep.yield r))):Sem _)=pure sl) :
 ∃ k:Option (Array Value)→Sem (List (PS × Value)),bindArgs fd ⟨vals,[]⟩=seqItems? fd.defaults >>= k∧∀ o,o.getD #[]=dl.toArray→k o=pure (names.filterMap fun n=>(sl.lookup n).map fun x=>(n,x)):=by
 obtain⟨nm,qn,⟨po,ar,va,ko,kd,kw,df⟩,body,sc,gl,cl,dfl,kdf,doc,pm,an,code,ct⟩:=fd
 dsimp only at hp ha hk hv hw
 subst hp hk hv hw
 subst ha
 refine ⟨_,rfl,fun o ho=>?_⟩
 have h1:(o.getD #[]).toList=dl:=by rw [ho]
 rw [h1]
 refine (if_neg ?_).trans ?_
 ·exact fun z=>by rw [Bool.and_eq_true] at z;exact hl (of_decide_eq_true z.1)
 have h2:¬ (!(((ar.map (·.arg)).take ((ar.map (·.arg)).length - (dl.drop (dl.length - (ar.map (·.arg)).length)).length)).filter fun n=>(((ar.map (·.arg)).zip vals).lookup n).isNone).isEmpty)=true:=by rw [hm];exact Bool.false_ne_true
 refine (if_neg h2).trans ?_
 refine (congrArg (· >>= _) hf).trans ?_
 refine (pure_bind _ _).trans ?_
 refine (congrArg (· >>= _) (List.forIn_nil (m:=Sem) (α:=PS))).trans ?_
 refine (pure_bind _ _).trans ?_
 refine (if_neg Bool.false_ne_true).trans ?_
 show pure (List.filterMap (fun n=>(sl.lookup n).map fun x=>(n,x)) ((ar.map (·.arg)) ++ []))=_
 rw [List.append_nil]
theorem slots_all{names:List PS}{vals:List Value}(hl:vals.length=names.length):∀ l:List PS,(∀ n∈l,n∈names)→(l.filter fun n=>((names.zip vals).lookup n).isNone)=[]:=fun l h =>
 List.filter_eq_nil_iff.mpr fun n hn z=>by
  have:=lookup_zip_isSome names vals n (h n hn) hl
  cases e:List.lookup n (names.zip vals) with
  | none=>rw [e] at this;cases this
  | some _=>rw [e] at z;cases z
theorem bind_plain{fd:FuncData}{names:List PS}{vals:List Value}(p:PlainP fd names)(hd:fd.defaults=.none)(hl:vals.length=names.length):bindArgs fd ⟨vals,[]⟩=pure (names.zip vals):=by
 have a1:([]:List Value).drop (([]:List Value).length - names.length)=[]:=List.drop_nil
 obtain⟨k,e,h⟩:=bind_core p.po p.ar p.ko p.va p.kw (fun z=>Nat.lt_irrefl _ (hl ▸ z)) [] (by rw [a1];exact slots_all hl _ fun n hn=>List.mem_of_mem_take hn) (sl:=names.zip vals) (by rw [a1,List.zip_nil_right];rfl)
 rw [e,hd]
 exact (pure_bind none k).trans ((h none rfl).trans (congrArg pure (filterMap_zip names vals p.nd hl)))
theorem bind_one{s:Shared}{fd:FuncData}{ns:List PS}{x:PS}{vals:List Value}{d:Value}{T:Addr}{o:Obj}{m:Nat}(p:PlainP fd (ns ++ [x]))(hd:fd.defaults=.ref T)(ho:s.heap.get? T=some o)(hs:o.data=.seq #[d] m) :
  (vals.length=(ns ++ [x]).length→BindsTo s fd ⟨vals,[]⟩ ((ns ++ [x]).zip vals))∧(vals.length=ns.length→BindsTo s fd ⟨vals,[]⟩ ((ns ++ [x]).zip (vals ++ [d]))):=by
 have ln:(ns ++ [x]).length=ns.length + 1:=List.length_append
 have a1:[d].drop ([d].length - (ns ++ [x]).length)=[d]:=by rw [ln,List.length_singleton,Nat.sub_eq_zero_of_le (Nat.le_add_left _ _)];rfl
 have a2:(ns ++ [x]).length - [d].length=ns.length:=by rw [ln];rfl
 have a3:(ns ++ [x]).drop ns.length=[x]:=List.drop_left
 have a4:(ns ++ [x]).take ns.length=ns:=List.take_left
 have xm:x∈ns ++ [x]:=List.mem_append_right _ (.head _)
 refine ⟨fun hl=>?_,fun hl=>?_⟩
 ·have e3:(List.lookup x ((ns ++ [x]).zip vals)).isNone=false:=by
   have:=lookup_zip_isSome (ns ++ [x]) vals x xm hl
   cases e:List.lookup x ((ns ++ [x]).zip vals) with
   | none=>rw [e] at this;cases this
   | some _=>rfl
  obtain⟨k,e,h⟩:=bind_core p.po p.ar p.ko p.va p.kw (fun z=>Nat.lt_irrefl _ (hl ▸ z)) [d] (by rw [a1,a2,a4];exact slots_all hl _ fun n hn=>List.mem_append_left _ hn) (sl:=(ns ++ [x]).zip vals) (by
   rw [a1,a2,a3]
   refine (List.forIn_cons _ _ _ _).trans ?_
   rw [e3]
   exact (pure_bind _ _).trans List.forIn_nil)
  exact .of_defaults hd ho hs e ((h _ rfl).trans (congrArg pure (filterMap_zip _ vals p.nd hl)))
 ·obtain⟨n1,n2,n3⟩:=List.nodup_append.mp p.nd
  have z0:(ns ++ [x]).zip vals=ns.zip vals:=by
   have:=List.zip_append (l₁:=ns) (r₁:=[x]) (l₂:=vals) (r₂:=([]:List Value)) hl.symm
   rwa [List.append_nil,List.zip_nil_right,List.append_nil] at this
  have z1:(ns ++ [x]).zip (vals ++ [d])=ns.zip vals ++ [(x,d)]:=List.zip_append (l₁:=ns) (r₁:=[x]) (l₂:=vals) (r₂:=[d]) hl.symm
  have e3:(List.lookup x (ns.zip vals)).isNone=true:=by rw [lookup_zip_none ns vals x fun z=>n3 x z x (.head _) rfl];rfl
  obtain⟨k,e,h⟩:=bind_core p.po p.ar p.ko p.va p.kw (fun z=>by rw [hl,ln] at z;exact Nat.not_succ_le_self _ (Nat.le_of_succ_le z)) [d] (by rw [a1,a2,a4,z0];exact slots_all hl _ fun n hn=>hn) (sl:=ns.zip vals ++ [(x,d)]) (by
   rw [a1,a2,a3,z0]
   refine (List.forIn_cons _ _ _ _).trans ?_
   rw [e3]
   exact (pure_bind _ _).trans List.forIn_nil)
  refine .of_defaults hd ho hs e ((h _ rfl).trans (congrArg pure ?_))
  rw [← z1]
  exact filterMap_zip _ _ p.nd (by rw [List.length_append,hl,ln];rfl)
section
variable{Z:SA}{w:World}{hd:Bool}{X:Addr→Prop}{γ γ' γ₁ γ₂:Gh}{h h':Heap}{s s' s₁ s₂:Shared}{H H':HT}{n n' N:Nat}{A:Around}{env:Env}{l l':FL}{k kx:KV}{ks ks':KS}{sc:List (PS × NameKind)}
noncomputable def CallR(Z:SA)(w:World)(γ:Gh)(s:Shared)(k kx:KV)(r:Result)(s':Shared):Prop:=match r with
 | .ok (.ret v)=>PostV Z w NX γ s k v s'
 | .ok _=>False
 | .error e=>PostX Z w NX γ s kx e s'
theorem deep_ok(a1:A.depth + 1 + 3 * N≤690)(a2:A.units + 3 + 12 * N≤5000):AOk N (A.deeper env):=⟨a1,a2⟩
set_option tactic.hygienic true in
theorem call_any{fa:Addr}{o:Obj}{fdat:FuncData}{body:List Stmt}{m:SM}{bs:List (PS × Value)}{l0 lx:FL}{rvs:List Value}(C:SndC Z w N)(a1:A.depth + 1 + 3 * N≤690)(a2:A.units + 3 + 12 * N≤5000)(hh:HdOk A hd γ s.heap){env₀:Env}(fr:FrOk A γ s.heap env₀)(R:Rel Z w γ H n s)
  (ho:s.heap.get? fa=some o) (hdat:o.data=.func fdat) (hbody:fdat.body=.stmts body) (hco:fdat.scope.isCoroutine=false) (hge:fdat.scope.isGenerator=false) (hk:fdat.scope.kind=.function) (hgl:fdat.globals=mainGlobals) (hbl:fdat.builtins=builtinsNs)
  (hcd:s.heap.CodeRec fdat.code fdat.qualname) (hbind:BindsTo s fdat ⟨rvs,[]⟩ bs) (hb:∀ p∈bs,fdat.scope.names.lookup p.1=some .local∨fdat.scope.names.lookup p.1=some .cell) (B:PB Z γ s.heap l bs) (hC:ClR γ s.heap fdat.scope fdat.closure)
  (hl0:∀ x v,l0.look x=some v→x < names.length∧fdat.scope.names.lookup (nmS x)=some .free∧∃ c oc rv,(nmS x,c)∈fdat.closure∧fdat.closure.lookup (nmS x)=some c∧s.heap.get? c=some oc∧oc.data=.cell (some rv)∧VR Z γ s.heap v rv)
  (hx:∀ y v,lx.look y=some v→(l.look y).or (l0.look y)=some v) (y:SndS Z w fdat.scope.names m body) (q:bodyK m (mk fnT FDeed N hd) lx H n k kx=true):codeAny (model prog w) A (.call (.ref fa) ⟨rvs,[]⟩) (CallR Z w γ s k kx) s:=by
 have hroom:A.depth < recursionLimit:=Nat.lt_of_le_of_lt (Nat.le_trans (Nat.le_add_right A.depth (1 + 3 * N)) (Nat.add_assoc A.depth 1 (3 * N) ▸ a1)) (by decide)
 refine codeAny_call_function hroom ho hdat hco hge hbody hcd (hbind _ _ _ _ ?_)
 rw [hgl,hbl]
 refine newEnv_ok R hk hC hb B hl0 fun env s1 γ1 l1 e1 e2 es hl R1 K1 en1 xs oL fresh F1=>⟨R1.lim,codeAny_func ?_⟩
 have P:Pre Z w N hd (A.deeper env) env fdat.scope.names lx H n γ1 s1:=by
  refine ⟨C,deep_ok a1 a2,⟨hh.1,(hh.mono K1).2⟩,es,fun x kk h1 _=>?_,?_,R1,en1.sub fun y v e=>by rw [hl];exact hx y v e⟩
  ·show env.scope.names.lookup x=some kk
   rw [e1];exact h1
  ·obtain⟨fe,outer,f1,f2,f3,f4⟩:=fr.mono K1 R.bnd
   refine ⟨env,fe :: outer,by show A.frames.map _=_;rw [f1];rfl,rfl,⟨by rw [es.kind];decide,?_,f3⟩,fun e he L hL=>?_⟩
   ·obtain⟨mm,⟨od,e,ep,g,d,_⟩,_⟩:=en1
    exact⟨_,od,e2,by simp [Heap.get?],g,fun vs z=>by rw [d] at z;cases z⟩
   ·rcases List.mem_cons.mp he with rfl | he
    ·rw [e2] at hL;cases hL;exact oL
    ·exact f4 e he L hL
 have nar:∀ {γ2:Gh} {h2:Heap},Kp (Xs env) γ1 s1.heap γ2 h2→Kp NX γ s.heap γ2 h2:=fun K2=>(K1.nx.trans K2).widenF fun b hb=>.inr (xs b hb)
 refine wpAny_mono (y N hd (A.deeper env) env lx H n _ γ1 s1 P q) (fun f s2 z=>?_) fun e s2 z=>?_
 ·cases f with
  | next =>
   obtain⟨l2,H2,n2,γ2,q2,R2,K2,e2,F2⟩:=z
   exact⟨_,H2,n2,γ2,q2,R2,nar K2,.none,F1.trans F2⟩
  | brk=>obtain⟨_,_,_,_,q2,_⟩:=z;cases q2
  | cont=>exact z.elim
  | ret v =>
   obtain⟨u,H2,n2,γ2,q2,R2,K2,vr,nx,_,F2⟩:=z
   exact⟨u,H2,n2,γ2,q2,R2,nar K2,vr,F1.trans F2⟩
 ·obtain⟨v,l2,H2,n2,γ2,q2,R2,K2,e2,fl2,F2⟩:=z
  have P2:=P.goS K2 R2 e2
  unfold leaving
  refine wpAny_bind (noteFrame_ok P2 fl2 fun γ3 s3 e' L he hL S3 fn=>?_)
  subst he
  obtain⟨ovs,fd,ft⟩:=fn
  have P3:=P2.sm S3
  refine setFlight_ok (ok':=(·=.none)) P3 fd ft rfl fun s4 S4 fd4 ft4=>?_
  exact⟨v,H2,n2,γ3,q2,(P3.sm S4).r,nar ((K2.trans S3.K.nx).trans S4.K.nx),⟨e',ovs,rfl,fd4,ft4⟩,F1.trans (F2.trans (S3.fro.trans S4.fro))⟩
structure FnJ(Z:SA)(w:World)(fa:Addr)(fd:FD):Prop where
 of:∃ o fdat body,(Z.K w.params).lookup fa=some o∧o.data=.func fdat∧fdat.body=.stmts body∧fdat.scope.isCoroutine=false∧fdat.scope.isGenerator=false∧fdat.scope.kind=.function∧fdat.globals=mainGlobals∧fdat.builtins=builtinsNs∧fdat.closure=[] ∧
  codeIn (Z.K w.params) fdat.code fdat.qualname=true∧PlainP fdat (fd.prms.map nmS)∧(∀ x∈fd.prms,x < names.length∧(fdat.scope.names.lookup (nmS x)=some .local∨fdat.scope.names.lookup (nmS x)=some .cell)) ∧
  ((fd.dfl=[]∧fdat.defaults=.none)∨(∃ v d T od mm xs x,fd.dfl=[v]∧fd.prms=xs ++ [x]∧fdat.defaults=.ref T∧(Z.K w.params).lookup T=some od∧od.data=.seq #[d] mm∧gvOk Z v d=true))∧SndS Z w fdat.scope.names fd.body body
end
section
variable{Z:SA}{w:World}{hd:Bool}{X:Addr→Prop}{γ γ' γ₁ γ₂:Gh}{h h':Heap}{s s' s₁ s₂:Shared}{H H':HT}{n n' N:Nat}{A:Around}{env:Env}{l l':FL}{k kx:KV}{ks ks':KS}{sc:List (PS × NameKind)}
theorem zipP_nil{vs ds:VL}{kk:FL→Bool}(q:zipP [] vs ds kk=true):vs=[]∧kk .nil=true:=by
 cases vs with
 | nil=>exact⟨rfl,q⟩
 | cons _ _=>cases q
theorem zipP_none:∀ (ps:List Nat) (vs:VL) (rvs:List Value) (kk:FL→Bool),ps.Nodup→(∀ x∈ps,x < names.length)→VRs Z γ h vs rvs→zipP ps vs [] kk=true →
  vs.length=ps.length∧∃ l,kk l=true∧PB Z γ h l ((ps.map nmS).zip rvs)∧∀ y v,l.look y=some v→y∈ps
 | [],vs,rvs,kk,_,_,v,q=>by
  obtain⟨rfl,q⟩:=zipP_nil q
  obtain rfl:=v.nilI
  exact⟨rfl,.nil,q,.nil,fun y v e=>by cases e⟩
 | x :: xs,vs,rvs,kk,nd,lt,v,q=>by
  obtain⟨n1,n2⟩:=List.nodup_cons.mp nd
  cases vs with
  | nil =>
   obtain rfl:=v.nilI
   have q:@Option.rec V (fun _=>Bool) false (fun d=>@Bool.rec (fun _=>Bool) false (zipP xs [] [] fun l=>kk (.cons x d l)) (Nat.ble (xs.length + 1) 0)) (VL.at (([]:VL).drop (0 - (xs.length + 1))) 0)=true:=q
   rw [List.drop_nil] at q
   cases q
  | cons u us =>
   obtain⟨ru,rus,rfl,a,b⟩:=v.consI
   obtain⟨e,l,q,B,hl⟩:=zipP_none xs us rus (fun l=>kk (.cons x u l)) n2 (fun y hy=>lt y (.tail _ hy)) b q
   refine ⟨by simp [e],_,q,.cons (lt x (.head _)) a ?_ B,fun y v e=>?_⟩
   ·cases g:l.look x with
    | none=>rfl
    | some z=>exact absurd (hl x z g) n1
   ·rw [FL.look_cons] at e
    by_cases g:x=y
    ·rw [g];exact .head _
    ·rw [if_neg g] at e;exact .tail _ (hl y v e)
theorem zipP_one{v0:V}{d:Value}(hv:VR Z γ h v0 d):∀ (ps:List Nat) (vs:VL) (rvs:List Value) (kk:FL→Bool),ps.Nodup→(∀ x∈ps,x < names.length)→VRs Z γ h vs rvs→zipP ps vs [v0] kk=true →
  ∃ l,kk l=true∧((vs.length=ps.length∧PB Z γ h l ((ps.map nmS).zip rvs))∨(vs.length + 1=ps.length∧PB Z γ h l ((ps.map nmS).zip (rvs ++ [d]))))∧∀ y v,l.look y=some v→y∈ps
 | [],vs,rvs,kk,_,_,v,q=>by
  obtain⟨rfl,q⟩:=zipP_nil q
  obtain rfl:=v.nilI
  exact⟨.nil,q,.inl ⟨rfl,.nil⟩,fun y v e=>by cases e⟩
 | x :: xs,vs,rvs,kk,nd,lt,v,q=>by
  obtain⟨n1,n2⟩:=List.nodup_cons.mp nd
  cases vs with
  | nil =>
   obtain rfl:=v.nilI
   have q:@Option.rec V (fun _=>Bool) false (fun d=>@Bool.rec (fun _=>Bool) false (zipP xs [] [v0] fun l=>kk (.cons x d l)) (Nat.ble (xs.length + 1) 1)) (VL.at ([v0].drop (1 - (xs.length + 1))) 0)=true:=q
   have e0:1 - (xs.length + 1)=0:=by omega
   rw [e0] at q
   have q:@Bool.rec (fun _=>Bool) false (zipP xs [] [v0] fun l=>kk (.cons x v0 l)) (Nat.ble (xs.length + 1) 1)=true:=q
   ·obtain⟨hb,q⟩:=brecT q
    obtain rfl:xs=[]:=List.eq_nil_of_length_eq_zero (Nat.le_zero.mp (Nat.le_of_succ_le_succ (Nat.le_of_ble_eq_true hb)))
    obtain⟨_,q⟩:=zipP_nil (show zipP [] [] [v0] (fun l=>kk (.cons x v0 l))=true from q)
    refine ⟨_,q,.inr ⟨rfl,.cons (lt x (.head _)) hv rfl .nil⟩,fun y v e=>?_⟩
    rw [FL.look_cons] at e
    by_cases g:x=y
    ·rw [g];exact .head _
    ·rw [if_neg g] at e;cases e
  | cons u us =>
   obtain⟨ru,rus,rfl,a,b⟩:=v.consI
   obtain⟨l,q,B,hl⟩:=zipP_one hv xs us rus (fun l=>kk (.cons x u l)) n2 (fun y hy=>lt y (.tail _ hy)) b q
   have nx:l.look x=none:=by
    cases g:l.look x with
    | none=>rfl
    | some z=>exact absurd (hl x z g) n1
   refine ⟨_,q,B.imp (fun⟨e,B⟩=>⟨by simp [e],.cons (lt x (.head _)) a nx B⟩) (fun⟨e,B⟩=>⟨by simp [← e],.cons (lt x (.head _)) a nx B⟩),fun y v e=>?_⟩
   rw [FL.look_cons] at e
   by_cases g:x=y
   ·rw [g];exact .head _
   ·rw [if_neg g] at e;exact .tail _ (hl y v e)
theorem mem_zip_fst{α β:Type}:∀ {l:List α} {m:List β} {p:α × β},p∈l.zip m→p.1∈l
 | [],_,_,h=>by simp at h
 | _ :: _,[],_,h=>by simp at h
 | a :: r,b :: t,p,h=>by
  rw [List.zip_cons_cons] at h
  rcases List.mem_cons.mp h with rfl | h
  ·exact .head _
  ·exact .tail _ (mem_zip_fst h)
theorem nodup_of_map{α β:Type}{f:α→β}:∀ {l:List α},(l.map f).Nodup→l.Nodup
 | [],_=>List.nodup_nil
 | a :: r,h=>by
  rw [List.map_cons] at h
  obtain⟨h1,h2⟩:=List.nodup_cons.mp h
  exact List.nodup_cons.mpr ⟨fun z=>h1 (List.mem_map_of_mem z),nodup_of_map h2⟩
theorem call_fn{fa:Addr}{fd:FD}{vs:VL}{rvs:List Value}(J:FnJ Z w fa fd)(C:SndC Z w N)(a1:A.depth + 1 + 3 * N≤690)(a2:A.units + 3 + 12 * N≤5000)(hh:HdOk A hd γ s.heap){env₀:Env}(fr:FrOk A γ s.heap env₀)(R:Rel Z w γ H n s)(vr:VRs Z γ s.heap vs rvs)
  (q:zipP fd.prms vs fd.dfl (fun l=>bodyK fd.body (mk fnT FDeed N hd) l H n k kx)=true):codeAny (model prog w) A (.call (.ref fa) ⟨rvs,[]⟩) (CallR Z w γ s k kx) s:=by
 obtain⟨o,fdat,body,e1,e2,e3,e4,e5,e6,e7,e8,e9,e10,pp,e11,e12,y⟩:=J.of
 have ho:=R.st _ _ e1
 have nd:=nodup_of_map pp.nd
 have fin:∀ {l:FL} {bs:List (PS × Value)},bodyK fd.body (mk fnT FDeed N hd) l H n k kx=true→PB Z γ s.heap l bs→BindsTo s fdat ⟨rvs,[]⟩ bs→(∀ p∈bs,p.1∈fd.prms.map nmS)→codeAny (model prog w) A (.call (.ref fa) ⟨rvs,[]⟩) (CallR Z w γ s k kx) s:=by
  intro l bs q B hb hm
  refine call_any (l0:=.nil) (lx:=l) C a1 a2 hh fr R ho e2 e3 e4 e5 e6 e7 e8 (codeRec_of R.st e10) hb (fun p hp=>?_) B (by rw [e9];exact⟨(fun _ h=>nomatch h),.nil,(fun _ h=>nomatch h)⟩) (fun x v e=>by cases e) (fun y v e=>by rw [e];rfl) y q
  obtain⟨x,hx,he⟩:=List.mem_map.mp (hm p hp)
  rw [← he];exact (e11 x hx).2
 rcases e12 with ⟨d1,d2⟩ | ⟨v,d,T,od,mm,xs,x,d1,d2,d3,d4,d5,d6⟩
 ·rw [d1] at q
  obtain⟨len,l,q,B,_⟩:=zipP_none fd.prms vs rvs _ nd (fun x hx=>(e11 x hx).1) vr q
  exact fin q B (.of_eq (bind_plain pp d2 (by rw [List.length_map,← len,vr.len]))) fun p hp=>mem_zip_fst hp
 ·rw [d1] at q
  have vd:VR Z γ s.heap v d:=gv_ok R d6
  obtain⟨l,q,B,_⟩:=zipP_one vd fd.prms vs rvs _ nd (fun x hx=>(e11 x hx).1) vr q
  have pp':PlainP fdat (xs.map nmS ++ [nmS x]):=by rw [d2,List.map_append] at pp;exact pp
  obtain⟨b1,b2⟩:=bind_one (s:=s) (vals:=rvs) pp' d3 (R.st _ _ d4) d5
  have ee:fd.prms.map nmS=xs.map nmS ++ [nmS x]:=by rw [d2,List.map_append];rfl
  rw [ee] at B
  rcases B with ⟨len,B⟩ | ⟨len,B⟩
  ·exact fin q B (b1 (by rw [← vr.len,len,d2];simp)) fun p hp=>by rw [ee];exact mem_zip_fst hp
  ·exact fin q B (b2 (by rw [← vr.len];rw [d2] at len;simp at len;simp [len])) fun p hp=>by rw [ee];exact mem_zip_fst hp
end
end Mine
end
section
open PySem renaming Expr→PX,Str→PS
open PySem PySem.W PySem.Spec PySem.Calls PyProof.Rows PySem.SeqAt
namespace Mine
section
variable{w:World}{A:Around}{E:Value→Shared→Prop}{s:Shared}{K:Frag}{x t c:Value}{H:Heap→Prop}{v:Bool}{Q:Value→Shared→Prop}
theorem isi_ok(Z:KitX K x t H)(e:kitOne K t c=some v)(X:K.In s.heap)(p:H s.heap)(hx:x≠.builtin "__main__.__loader__#opaque")(h:∀ tk,s.toks≤tk→Q (.bool v) { s with toks:=tk }) :
  wpAny (model prog w) A (PySem.call (.builtin "isinstance") [x,c]) Q E s:=by
 refine call_isinstance_of ?_ hx
 obtain⟨h0,g,d,tt,os⟩:=s
 have LT:=Z.ty (model prog w) h0 X p
 unfold kitOne at e
 unfold Builtin.«isinstance.nested»
 refine wpAny_bind (LT.at ?_)
 by_cases q:(t == c)=true
 ·rw [if_pos q] at e
  rw [if_pos q]
  cases e
  have hh:=h _ (Nat.le_refl _)
  first
   | exact wpAny_bind (wpAny_rule hh)
   | exact wpAny_bind (wpAny_rule (wpAny_pure hh))
   | exact wpAny_bind (wpAny_rule (wpAny_bind (wpAny_pure (wpAny_pure hh))))
 ·rw [if_neg q] at e
  rw [if_neg q]
  obtain⟨hty,his,hsub⟩:=kit_cls (M:=model prog w) X e
  have LI:Looks (model prog w) h0 (isInstance x c) v:=LT.andThen hsub
  refine wpAny_bind (hty.at ?_)
  rw [if_pos (by decide)]
  k_delta "plainIsInstance"
  refine wpAny_bind (wpAny_bind (his.at ?_))
  simp only [Bool.not_true,Bool.false_eq_true,if_false]
  refine wpAny_bind (LI.at ?_)
  cases v with
  | true =>
   simp only [if_true]
   have hh:=h _ (Nat.le_refl _)
   first | exact wpAny_pure hh | exact wpAny_pure (wpAny_pure hh)
  | false =>
   simp only [Bool.false_eq_true,if_false]
   refine wpAny_bind (Z.ca X p ?_)
   refine wpAny_bind ((Z.it _ _ X p).at ?_)
   simp only [Bool.not_true,Bool.false_eq_true,if_false]
   refine wpAny_bind (wpAny_rule ?_)
   refine hsub.at ?_
   have hh:=h _ (Nat.le_succ _)
   first | exact wpAny_pure hh | exact wpAny_pure (wpAny_pure hh)
end
noncomputable def kxOk(K:Frag)(D:Addr):Bool:=plainGet K D "__class__" && hasDictIn K D && findIn K (.ref D) "__class__" == some (some (.builtin "object.__class__")) && specialIn K (.builtin "object.__class__") "__get__" == some (some (.builtin "getset_descriptor.__get__")) && takesIn K (.builtin "object.__class__") == some true && mroIn K D (.type "object") == some true
noncomputable def tyNames:List String:=["NoneType","bool","int","str","list","dict","tuple"]
structure KC(Z:SA)(w:World):Prop extends KB Z w where
 one:∀ c cd d,clT.get c=some cd→cd.kind≠2→(clT.get d).isSome=true→kitOne (Z.K w.params) (.ref (Z.clA c)) (.ref (Z.clA d))=some (memN cd.anc d)
 kx:∀ c cd,clT.get c=some cd→cd.kind≠2→kxOk (Z.K w.params) (Z.clA c)=true
 ots:∀ c cd,clT.get c=some cd→cd.kind≠2→kitOne (Z.K w.params) (.ref (Z.clA c)) (.type "str")=some false
 typ:∀ T∈tyNames,∀ d,(clT.get d).isSome=true→kitOne (Z.K w.params) (.type T) (.ref (Z.clA d))=some false
 tts:∀ T∈tyNames,kitOne (Z.K w.params) (.type T) (.type "str")=some (T == "str")
section
variable{Z:SA}{w:World}{hd:Bool}{X:Addr→Prop}{γ γ' γ₁ γ₂:Gh}{h h':Heap}{s s' s₁ s₂:Shared}{H H':HT}{n n' N:Nat}{A:Around}{env:Env}{l l':FL}{k kx:KV}{ks ks':KS}{sc:List (PS × NameKind)}
structure KV1(K:Frag)(h:Heap)(rv t:Value):Prop where
 of:∃ Hp,KitX K rv t Hp∧Hp h
 ne:rv≠.builtin "__main__.__loader__#opaque"
theorem KV1.own(O:KC Z w){x d:Addr}{c:Nat}{cd:CD}{m:PS→Option Value}(hc:clT.get c=some cd)(hk:cd.kind≠2)(g:h.get? x=some ⟨.ref (Z.clA c),some d,.plain,#[]⟩)(ns:h.Ns d m):KV1 (Z.K w.params) h (.ref x) (.ref (Z.clA c)):=by
 have e:=O.kx c cd hc hk
 unfold kxOk at e
 simp only [Bool.and_eq_true,beq_iff_eq] at e
 obtain⟨⟨⟨⟨⟨e1,e2⟩,e3⟩,e4⟩,e5⟩,e6⟩:=e
 obtain⟨o,es,ep,ho,_⟩:=ns
 exact⟨⟨_,kitx_own e1 e2 e3 e4 e5 e6,(⟨g,rfl,rfl,ho⟩:InstAt h x ⟨.ref (Z.clA c),some d,.plain,#[]⟩ (Z.clA c) (some o))⟩,fun z=>nomatch z⟩
theorem sym_ty(O:KC Z w)(R:Rel Z w γ H n s){i:Nat}{rv:Value}(x:VR Z γ s.heap (.a (.sym i)) rv):KV1 (Z.K w.params) s.heap rv (.ref (Z.clA 2)):=by
 obtain⟨_,rfl,q1⟩:=x
 obtain⟨h0,f,d,m,t1,t2,g,f2,nsd,m1,m2,m3⟩:=R.sym.at_ _ _ q1
 exact .own O cl2 c2k g nsd
theorem obj_ty(O:KC Z w){c:Nat}{fs:VL}{rv:Value}(x:VR Z γ h (.obj c fs) rv):∃ cd,clT.get c=some cd∧cd.kind≠2∧KV1 (Z.K w.params) h rv (.ref (Z.clA c)):=by
 obtain⟨_,_,_,_,_,rfl,hc,g,f1,f2,ns,r,q,u,k2⟩:=x.objI;exact⟨_,hc,k2,.own O hc k2 g ns⟩
theorem inst_ty(O:KC Z w)(R:Rel Z w γ H n s){i c:Nat}{fs:FL}{a:Addr}(e:H.get i=.inst c fs)(o:γ.own a=.obj i 0):∃ cd,clT.get c=some cd∧cd.kind≠2∧KV1 (Z.K w.params) s.heap (.ref a) (.ref (Z.clA c)):=by
 have ob:=R.obj i
 rw [e] at ob
 obtain⟨b,d,m,cd,hcd,hk,hfl,o1,g,nsd,fr⟩:=ob
 obtain rfl:=o1.at0 o
 exact⟨cd,hcd,hk,.own O hcd hk g nsd.ns⟩
theorem lst_ty(R:Rel Z w γ H n s){i p:Nat}{vs:VL}{a:Addr}(e:H.get i=.lst p vs)(o:γ.own a=.obj i 0):KV1 (Z.K w.params) s.heap (.ref a) (.type "list"):=by
 obtain⟨pre,ws,m,g,_⟩:=R.lst e o
 exact⟨⟨_,kitx_list,⟨_,g,rfl⟩⟩,fun z=>nomatch z⟩
theorem dic_ty(R:Rel Z w γ H n s){i d:Nat}{fs:FL}{a:Addr}(e:H.get i=.dic d fs)(o:γ.own a=.obj i 0):KV1 (Z.K w.params) s.heap (.ref a) (.type "dict"):=by
 obtain⟨kvs,o1,D,_⟩:=R.dic e o
 obtain⟨od,l,ep,g,q,_⟩:=D
 exact⟨⟨_,kitx_dict,⟨od,g,by first | exact q | exact q.1⟩⟩,fun z=>nomatch z⟩
theorem tup_ty{K:Frag}{vs:VL}{rv:Value}(x:VR Z γ h (.tup vs) rv):KV1 K h rv (.type "tuple"):=by
 obtain⟨_,_,_,rfl,g,f,v⟩:=x.tupI;exact⟨⟨_,kitx_tuple,⟨_,g,rfl⟩⟩,fun z=>nomatch z⟩
noncomputable def tyN(k:Nat):String:=tyNames.getD k ""
theorem tyN_all:∀ k,k < 7→tyN k∈tyNames∧(tyN k == "str")=Nat.beq k 3:=by decide
noncomputable def TyD.ok(Z:SA)(w:World)(h:Heap)(rv:Value)(d:TyD):Prop:=match d with
 | .typ k=>k < 7∧KV1 (Z.K w.params) h rv (.type (tyN k))
 | .own c=>∃ cd,clT.get c=some cd∧cd.kind≠2∧KV1 (Z.K w.params) h rv (.ref (Z.clA c))
theorem ty_c{K:Frag}{k:Nat}{T:String}{rv:Value}{Hp:Heap→Prop}(e:tyN k=T)(X:KitX K rv (.type T) Hp)(p:Hp h)(ne:rv≠.builtin "__main__.__loader__#opaque"):KV1 K h rv (.type (tyN k)):=⟨⟨Hp,e ▸ X,p⟩,ne⟩
theorem ty_ok(O:KC Z w)(R:Rel Z w γ H n s){v:V}{rv:Value}{d:TyD}(x:VR Z γ s.heap v rv)(e:V.ty v H=some d):d.ok Z w s.heap rv:=by
 cases v with
 | a c=>cases c with
  | none=>obtain rfl:rv=.none:=x;cases e;exact⟨by decide,ty_c rfl kitx_none trivial nofun⟩
  | bool=>obtain rfl:=x;cases e;exact⟨by decide,ty_c rfl kitx_bool trivial nofun⟩
  | str=>obtain⟨_,rfl,_⟩:=x;cases e;exact⟨by decide,ty_c rfl kitx_str trivial nofun⟩
  | sym=>cases e;exact⟨_,cl2,c2k,sym_ty O R x⟩
  | int | num | upto | symnum=>obtain⟨_,_,rfl⟩:=shInt x rfl;cases e;exact⟨by decide,ty_c rfl kitx_int trivial nofun⟩
  | _=>cases e
 | ref i =>
  obtain⟨a,rfl,o⟩:=x
  have e:@Mine.O.rec (fun _=>Option TyD) (fun c _=>some (.own c)) (fun _ _=>some (.typ 4)) (fun _ _=>some (.typ 5)) none none (fun _ _=>none) none (fun _=>none) (H.get i)=some d:=e
  cases he:H.get i with
  | inst c fs=>rw [he] at e;cases e;exact inst_ty O R he o
  | lst p vs=>rw [he] at e;cases e;exact⟨by decide,lst_ty R he o⟩
  | dic k fs=>rw [he] at e;cases e;exact⟨by decide,dic_ty R he o⟩
  | _=>rw [he] at e;cases e
 | obj c fs=>cases e;exact obj_ty O x
 | tup vs=>cases e;exact⟨by decide,tup_ty x⟩
 | _=>cases e
theorem clsAnc_spec{d c:Nat}{q:Bool→Bool}(e:clsAnc d c q=true):OptK (clT.get d) fun cd=>q (memN cd.anc c):=optK_some e
inductive IsiJ(Z:SA)(w:World)(h:Heap)(q:Bool→Bool)(rv rc:Value):Prop | mk (b:Bool) (t:Value):q b=true→KV1 (Z.K w.params) h rv t→kitOne (Z.K w.params) t rc=some b→IsiJ Z w h q rv rc
theorem isD_ok(O:KC Z w){c:C}{d:TyD}{q:Bool→Bool}{rv rc:Value}(e:isD c d q=true)(x:d.ok Z w h rv)(y:VR Z γ h (.a c) rc):IsiJ Z w h q rv rc:=by
 cases c with
 | cls c =>
  obtain rfl:rc=.ref (Z.clA c):=y
  obtain⟨cdc,hc,e⟩:=optK_some (o:=clT.get c) e
  have hc:(clT.get c).isSome=true:=by rw [hc];rfl
  cases d with
  | typ k=>exact⟨false,_,e,x.2,O.typ _ (tyN_all k x.1).1 c hc⟩
  | own d =>
   obtain⟨cd,h1,h2,k⟩:=x
   obtain⟨cd',h3,e⟩:=clsAnc_spec e
   rw [h1] at h3;cases h3
   exact⟨_,_,e,k,O.one _ _ c h1 h2 hc⟩
 | blt b =>
  obtain rfl:rc=bltV b:=y
  obtain⟨hb,e⟩:=brecT e
  obtain rfl:=beqT hb
  cases d with
  | typ k=>obtain⟨m,q2⟩:=tyN_all k x.1;exact⟨_,_,e,x.2,q2 ▸ O.tts _ m⟩
  | own d=>obtain⟨cd,h1,h2,k⟩:=x;exact⟨_,_,e,k,O.ots _ _ h1 h2⟩
 | _=>exact ff e
theorem KV1.isi{rv t c:Value}{b:Bool}{Q E:Value→Shared→Prop}{K:Frag}(k:KV1 K s.heap rv t)(X:K.In s.heap)(e:kitOne K t c=some b)(q:∀ tk,s.toks≤tk→Q (.bool b) { s with toks:=tk }):wpAny (model prog w) A (PySem.call (.builtin "isinstance") [rv,c]) Q E s:=by
 obtain⟨Hp,Z1,p⟩:=k.of
 exact isi_ok Z1 e X p k.ne q
end
section
variable{Z:SA}{w:World}{hd:Bool}{X:Addr→Prop}{γ γ' γ₁ γ₂:Gh}{h h':Heap}{s s' s₁ s₂:Shared}{H H':HT}{n n' N:Nat}{A:Around}{env:Env}{l l':FL}{k kx:KV}{ks ks':KS}{sc:List (PS × NameKind)}
theorem Rel.newAt(x:Rel Z w γ H n s){o:O}(hH:∀ j,H'.get j=if j=n then o else H.get j)(keep:∀ b o,s.heap.get? b=some o→h'.get? b=some o)(hz:s.heap.objs.size < h'.objs.size){t:Nat}(ht:s.toks≤t)
  (ho:Kp NX γ s.heap (γ.take s.heap.objs.size (.obj n 0)) h'→Own1 (γ.take s.heap.objs.size (.obj n 0)) n s.heap.objs.size→ObjR Z w (γ.take s.heap.objs.size (.obj n 0)) h' n o) :
  Rel Z w (γ.take s.heap.objs.size (.obj n 0)) H' (n + 1) { s with heap:=h',toks:=t }∧Kp NX γ s.heap (γ.take s.heap.objs.size (.obj n 0)) h':=by
 have K:Kp NX γ s.heap (γ.take s.heap.objs.size (.obj n 0)) h':=(Kp.more keep (Nat.le_of_lt hz)).take _ (Nat.le_refl _) (by rw [x.freshFree (Nat.le_refl _)];exact Ow.noConfusion)
 have fr:=x.freshFree (Nat.le_refl s.heap.objs.size)
 refine ⟨x.upd K ⟨rfl,rfl⟩ n (fun b i p _ q=>?_) (fun b i p e=>?_) ?_ (fun i e=>by rw [hH,if_neg e]) (fun b q=>?_) (Nat.le_succ n) (Nat.lt_succ_self n) (fun i e=>(x.fresh i (by omega)).2) (fun i e=>?_) (fun e=>e) rfl ht,K⟩
 ·obtain⟨ob,g⟩:=x.there q
  rw [g];exact keep _ _ g
 ·by_cases q:b=s.heap.objs.size
  ·subst q;rw [Gh.take_self,fr]
   constructor
   ·intro z;cases z;exact absurd rfl e
   ·intro z;cases z
  ·rw [Gh.take_ne _ _ q]
 ·rw [hH,if_pos rfl]
  refine ho K ⟨Gh.take_self ..,fun b p q=>?_⟩
  by_cases e:b=s.heap.objs.size
  ·exact e
  ·rw [Gh.take_ne _ _ e] at q
   have:=x.obj n
   rw [(x.fresh n (Nat.le_refl n)).1] at this
   exact absurd q (this b p)
 ·show b < h'.objs.size
  by_cases e:b=s.heap.objs.size
  ·rw [e];exact hz
  ·rw [Gh.take_ne _ _ e] at q;exact Nat.lt_trans (x.bnd b q) hz
 ·have:=x.obi i e
  rw [hH]
  by_cases q:i=n
  ·rw [q,(x.fresh n (Nat.le_refl n)).1] at this;cases this
  ·rw [if_neg q];exact this
inductive ScanQ(d:Bool)(RR:Result→Shared→Prop)(C:Shared→Prop):Option Value→Shared→Prop
 | fin {s:Shared}:RR (.ok (.ret (.bool d))) s→ScanQ d RR C none s
 | go {s:Shared}:C s→ScanQ d RR C (some (.bool d)) s
 | hit {s:Shared}:RR (.ok (.ret (.bool (!d)))) s→ScanQ d RR C (some (.bool (!d))) s
theorem scan_loop(R:Rel Z w γ H n s){id:Nat}{vs:VL}{r d:Bool}(hv:H.get id=.lst 0 vs){it:Addr}(ow:γ.own it=.it){RR:Result→Shared→Prop}{C:Shared→Prop}
  (st:∀ s₁,(∀ E,wpAny (model prog w) A.in1 (pyNext (.ref it)) (ScanQ d RR C) E s₁)→C s₁) :
  ∀ (ys:VL) (j:Nat) (s₁:Shared),SmX (fun b=>b=it) γ s γ s₁→HdOk A hd γ s₁.heap→ItR Z γ s₁.heap (.lst id j) it→vs.drop j=ys→foldB d ys=some r→(∀ s',SmX (fun b=>b=it) γ s γ s'→RR (.ok (.ret (.bool r))) s')→C s₁:=by
 intro ys
 induction ys with
 | nil =>
  intro j s₁ S hh ir hd he hR
  refine st s₁ fun E=>wpAny_mono (next_lst (A:=A.in1) hh.in1 (R.sm S) hv ir ow) (fun r' s2 z=>?_) fun _ _ z=>z
  obtain⟨S2,z⟩:=z
  cases he
  cases r' with
  | some rv=>obtain⟨_,q,_⟩:=z;rw [← List.head?_drop,hd] at q;cases q
  | none=>exact .fin (hR s2 (S.trans S2))
 | cons y ys ih =>
  intro j s₁ S hh ir hd he hR
  refine st s₁ fun E=>wpAny_mono (next_lst (A:=A.in1) hh.in1 (R.sm S) hv ir ow) (fun r' s2 z=>?_) fun _ _ z=>z
  obtain⟨S2,z⟩:=z
  have S3:=S.trans S2
  cases r' with
  | none=>rw [show vs[j]?=some y by rw [← List.head?_drop,hd];rfl] at z;cases z
  | some rv =>
   obtain⟨v,q,vr,ir2⟩:=z
   rw [← List.head?_drop,hd] at q
   cases q
   cases y with
   | a c=>cases c with
    | bool b =>
     obtain rfl:rv=.bool b:=vr
     have go:=fun he=>ih (j + 1) s2 S3 (hh.mono S2.K) ir2 (by rw [← List.tail_drop,hd];rfl) he hR
     cases b <;> cases d <;> first | exact .go (go he) | (cases he;exact .hit (hR s2 S3))
    | _=>cases he
   | _=>cases he
theorem all_loop(R:Rel Z w γ H n s){id:Nat}{vs:VL}{r:Bool}(hv:H.get id=.lst 0 vs){it:Addr}(ow:γ.own it=.it){RR:Result→Shared→Prop}:∀ (ys:VL) (j:Nat) (s₁:Shared),SmX (fun b=>b=it) γ s γ s₁→HdOk A hd γ s₁.heap→ItR Z γ s₁.heap (.lst id j) it→vs.drop j=ys→foldB true ys=some r →
  (∀ s',SmX (fun b=>b=it) γ s γ s'→RR (.ok (.ret (.bool r))) s')→codeAny (model prog w) A (.builtin "all.loop" ⟨[.ref it],[]⟩) RR s₁ :=
 scan_loop R hv ow fun s₁ st=>by
  refine codeAny_builtin F.entry_all_loop ?_
  rw [Around.under_plainId F.plain_all_loop _]
  show wpAny _ A.in1 (pyNext (.ref it) >>= _) _ _ _
  refine wpAny_bind (wpAny_mono (st _) (fun r s2 z=>?_) fun _ _ z=>z)
  cases z with
  | fin z=>exact wpAny_bind (wpAny_rule (wpAny_pure z))
  | go z=>exact wpAny_bind (wpAny_holding (wpAny_truthy_bool (wpAny_bind (wpAny_letGo (wpAny_pure ⟨plainId_quiet F.plain_all_loop _,z⟩)))))
  | hit z=>exact wpAny_bind (wpAny_holding (wpAny_truthy_bool (wpAny_bind (wpAny_letGo (wpAny_bind (wpAny_rule (wpAny_pure z)))))))
theorem any_loop(R:Rel Z w γ H n s){id:Nat}{vs:VL}{r:Bool}(hv:H.get id=.lst 0 vs){it:Addr}(ow:γ.own it=.it){RR:Result→Shared→Prop}:∀ (ys:VL) (j:Nat) (s₁:Shared),SmX (fun b=>b=it) γ s γ s₁→HdOk A hd γ s₁.heap→ItR Z γ s₁.heap (.lst id j) it→vs.drop j=ys→foldB false ys=some r →
  (∀ s',SmX (fun b=>b=it) γ s γ s'→RR (.ok (.ret (.bool r))) s')→codeAny (model prog w) A (.builtin "any.loop" ⟨[.ref it],[]⟩) RR s₁ :=
 scan_loop R hv ow fun s₁ st=>by
  refine codeAny_builtin F.entry_any_loop ?_
  rw [Around.under_plainId F.plain_any_loop _]
  show wpAny _ A.in1 (pyNext (.ref it) >>= _) _ _ _
  refine wpAny_bind (wpAny_mono (st _) (fun r s2 z=>?_) fun _ _ z=>z)
  cases z with
  | fin z=>exact wpAny_bind (wpAny_rule (wpAny_pure z))
  | go z=>exact wpAny_bind (wpAny_holding (wpAny_truthy_bool (wpAny_bind (wpAny_letGo (wpAny_pure ⟨plainId_quiet F.plain_any_loop _,z⟩)))))
  | hit z=>exact wpAny_bind (wpAny_holding (wpAny_truthy_bool (wpAny_bind (wpAny_letGo (wpAny_bind (wpAny_rule (wpAny_pure z)))))))
end
section
variable{Z:SA}{w:World}{hd:Bool}{X:Addr→Prop}{γ γ' γ₁ γ₂:Gh}{h h':Heap}{s s' s₁ s₂:Shared}{H H':HT}{n n' N:Nat}{A:Around}{env:Env}{l l':FL}{k kx:KV}{ks ks':KS}{sc:List (PS × NameKind)}
theorem iterList(hh:HdOk A hd γ s.heap)(R:Rel Z w γ H n s){i:Nat}{xs:VL}(e:H.get i=.lst 0 xs){a:Addr}(o:γ.own a=.obj i 0){Q:Value→Shared→Prop}{E:Value→Shared→Prop}
  (q:∀ γ1 s1,Sm γ s γ1 s1→γ1.own s.heap.objs.size=.it→ItR Z γ1 s1.heap (.lst i 0) s.heap.objs.size→HdOk A hd γ1 s1.heap→Q (.ref s.heap.objs.size) s1):wpAny (model prog w) A (pyIter (.ref a)) Q E s:=by
 obtain⟨ws,m,g,v1,l1⟩:=R.lst0 e o
 have S:=Sm.pushO R { cls:=.type "list_iterator",data:=.fields #[.ref a,.int 0 0] } .it (fun _ _=>Ow.noConfusion)
 refine wpAny_pyIter_list (isList_of g) ?_
 exact q _ _ S (Gh.take_self ..) (.lst ((S.own _ _ _).mpr o) ⟨_,Heap.get?_push_size _ rfl,rfl,rfl⟩) (hh.mono S.K)
inductive ListOf(γ:Gh)(H:HT)(kk:VL→Bool)(rv:Value):Prop | mk (i:Nat) (xs:VL) (ad:Addr):rv=.ref ad→H.get i=.lst 0 xs→γ.own ad=.obj i 0→kk xs=true→ListOf γ H kk rv
theorem listOf_ok(R:Rel Z w γ H n s){v:V}{kk:VL→Bool}{rv:Value}(e:listOf v H kk=true)(x:VR Z γ s.heap v rv):ListOf γ H kk rv:=by
 obtain⟨i,rfl,e⟩:=asRef_ok e
 obtain⟨xs,he,e⟩:=lst0_spec e
 obtain⟨ad,q,o⟩:=x
 exact⟨i,xs,ad,q,he,o,e⟩
theorem bLen_ok(R:Rel Z w γ H n s){vs:VL}{rvs:List Value}(e:bLen vs H n k=true)(vr:VRs Z γ s.heap vs rvs){E:Value→Shared→Prop}:wpAny (model prog w) A (PySem.call (.builtin "len") rvs) (PostV Z w NX γ s k) E s:=by
 obtain⟨v,rv,rfl,rfl,v0,e⟩:=as1_ok e vr
 obtain⟨i,xs,ad,rfl,he,o,e⟩:=listOf_ok R e v0
 obtain⟨ws,m,g,v1,l1⟩:=R.lst0 he o
 rw [vlen,v1.len] at e
 exact call_len_list (isList_of g) (by simp only [List.size_toArray];omega) (okT (v:=natV ws.length) e R (.int _ _ (Nat.succ_ne_zero _)) (Nat.le_succ_of_le (Nat.le_succ _)))
theorem bRange_ok(R:Rel Z w γ H n s){vs:VL}{rvs:List Value}(e:bRange vs H n k=true)(vr:VRs Z γ s.heap vs rvs){E:Value→Shared→Prop}:wpAny (model prog w) A (PySem.call (.type "range") rvs) (PostV Z w NX γ s k) E s:=by
 have fin:∀ {a b z:Int} {t u v:Tok} {tk:Nat},rngK a b z H n k=true→(z=1∨z=-1)→s.toks≤tk→PostV Z w NX γ s k (.ref s.heap.objs.size) { s with heap:=s.heap.push { cls:=.type "range",data:=.fields #[.int a t,.int b u,.int z v] },toks:=tk }:=by
  intro a b z t u v tk e hz ht
  obtain⟨h1,e⟩:=brecT e
  obtain⟨h2,e⟩:=brecT e
  exact⟨_,H,n,γ,e,R.push _ ht,.push _,.rng (IsRange.new ..) (R.freshFree (Nat.le_refl _)) h1 h2 hz,rfl,rfl,rfl⟩
 match vs,e,vr with
 | [x],e,vr =>
  obtain⟨rv,rfl,v0⟩:=vrs1 vr
  obtain⟨a,t,rfl,_,e⟩:=asInt_ok e v0
  exact call_range_1 (fin e (.inl rfl) (Nat.le_succ_of_le (Nat.le_succ _)))
 | [x,y,z],e,vr =>
  obtain⟨r1,r2,r3,rfl,v1,v2,v3⟩:=vrs3 vr
  obtain⟨a,t,rfl,_,e⟩:=asInt_ok e v1
  obtain⟨b,t',rfl,_,e⟩:=asInt_ok e v2
  obtain⟨c,t'',rfl,_,e⟩:=asInt_ok e v3
  obtain⟨hc,e'⟩:=brecT e
  obtain rfl:=beqI _ _ hc
  exact call_range_3 (c:=-1) (by decide) (fin e' (.inr rfl) (Nat.le_refl _)) (.inl (PyProof.noPylong_small (by decide)))
 | [],e,_=>exact ff e
 | [_,_],e,_=>exact ff e
 | _ :: _ :: _ :: _ :: _,e,_=>exact ff e
theorem bIsi_ok(O:KC Z w)(R:Rel Z w γ H n s){vs:VL}{rvs:List Value}(e:bIsinstance vs H n k=true)(vr:VRs Z γ s.heap vs rvs){E:Value→Shared→Prop}:wpAny (model prog w) A (PySem.call (.builtin "isinstance") rvs) (PostV Z w NX γ s k) E s:=by
 obtain⟨v,c,r1,r2,rfl,rfl,v1,v2,e⟩:=as2_ok e vr
 obtain⟨c,rfl,e⟩:=asA_ok e
 obtain⟨d,hd,e⟩:=optK_some e
 obtain⟨b,t,q,kv,ek⟩:=isD_ok O e (ty_ok O R v1 hd) v2
 exact kv.isi R.st ek fun tk ht=>okT q R (.bool _) ht
theorem bAll_ok(hh:HdOk A hd γ s.heap)(R:Rel Z w γ H n s){vs:VL}{rvs:List Value}(e:bScan true vs H n k=true)(vr:VRs Z γ s.heap vs rvs){E:Value→Shared→Prop}:wpAny (model prog w) A (PySem.call (.builtin "all") rvs) (PostV Z w NX γ s k) E s:=by
 obtain⟨v,rv,rfl,rfl,v0,e⟩:=as1_ok e vr
 obtain⟨i,xs,ad,rfl,he,o,e⟩:=listOf_ok R e v0
 obtain⟨r,hr,e⟩:=optK_some e
 refine call_function_tree F.kind_all F.plain_all F.entry_all (F.args_all1 _) ?_
 unfold Builtin.«all»
 refine wpAny_bind (m:=oneArg "all" _) (wpAny_pure ?_)
 refine wpAny_bind (iterList (A:=A.in1) hh.in1 R he o fun γ1 s1 S ow ir hh1=>?_)
 refine wpAny_pure ⟨plainId_quiet F.plain_all_loop _,all_loop (R.sm S) he ow xs 0 s1 (.refl (R.sm S)) ⟨hh1.1,hh1.2⟩ ir (by rfl) hr fun s' S2=>?_⟩
 exact⟨_,H,n,γ1,e,(R.sm S).sm S2,((S.K.nx (X:=fun b=>b=s.heap.objs.size)).trans S2.K).widen fun b hb=>.inr (by rw [hb];exact Nat.le_refl _),.bool _,S.fro.trans S2.fro⟩
theorem bAny_ok(hh:HdOk A hd γ s.heap)(R:Rel Z w γ H n s){vs:VL}{rvs:List Value}(e:bScan false vs H n k=true)(vr:VRs Z γ s.heap vs rvs){E:Value→Shared→Prop}:wpAny (model prog w) A (PySem.call (.builtin "any") rvs) (PostV Z w NX γ s k) E s:=by
 obtain⟨v,rv,rfl,rfl,v0,e⟩:=as1_ok e vr
 obtain⟨i,xs,ad,rfl,he,o,e⟩:=listOf_ok R e v0
 obtain⟨r,hr,e⟩:=optK_some e
 refine call_function_tree F.kind_any F.plain_any F.entry_any (F.args_any1 _) ?_
 unfold Builtin.«any»
 refine wpAny_bind (m:=oneArg "any" _) (wpAny_pure ?_)
 refine wpAny_bind (iterList (A:=A.in1) hh.in1 R he o fun γ1 s1 S ow ir hh1=>?_)
 refine wpAny_pure ⟨plainId_quiet F.plain_any_loop _,any_loop (R.sm S) he ow xs 0 s1 (.refl (R.sm S)) ⟨hh1.1,hh1.2⟩ ir (by rfl) hr fun s' S2=>?_⟩
 exact⟨_,H,n,γ1,e,(R.sm S).sm S2,((S.K.nx (X:=fun b=>b=s.heap.objs.size)).trans S2.K).widen fun b hb=>.inr (by rw [hb];exact Nat.le_refl _),.bool _,S.fro.trans S2.fro⟩
theorem bList_ok(R:Rel Z w γ H n s){vs:VL}{rvs:List Value}(e:bList vs H n k=true)(vr:VRs Z γ s.heap vs rvs){E:Value→Shared→Prop}:wpAny (model prog w) A (PySem.call (.type "list") rvs) (PostV Z w NX γ s k) E s:=by
 obtain⟨v,rv,rfl,rfl,v0,e⟩:=as1_ok e vr
 obtain⟨i,xs,ad,rfl,he,o,e⟩:=listOf_ok R e v0
 obtain⟨ws,m,g,v1,l1⟩:=R.lst0 he o
 obtain⟨H',e,hH⟩:=newO_spec e
 refine call_list_seq ad (.inl rfl) g rfl rfl (fun h' c' kp gn=>?_) (Nat.le_trans l1 (by decide))
 obtain⟨R',K'⟩:=R.newAt (h':=h') hH kp (Heap.lt_size gn) (Nat.le_refl s.toks) fun K o1=>⟨_,[],ws,_,o1,gn,by unfold PreR;rw [if_pos rfl],v1.mono K R.bnd,by simp,l1⟩
 exact⟨_,H',n + 1,_,e,R',K',.ref (Gh.take_self ..),rfl,rfl,rfl⟩
theorem bltK_ok(O:KC Z w)(hh:HdOk A hd γ s.heap)(R:Rel Z w γ H n s){b:Nat}{vs:VL}{rvs:List Value}(e:bltK b vs H n k=true)(vr:VRs Z γ s.heap vs rvs){E:Value→Shared→Prop} :
  wpAny (model prog w) A (PySem.call (bltV b) rvs) (PostV Z w NX γ s k) E s:=by
 match b,e with
 | 0,e=>exact bLen_ok R e vr
 | 1,e=>exact bRange_ok R e vr
 | 2,e=>exact bIsi_ok O R e vr
 | 3,e=>exact bAll_ok hh R e vr
 | 4,e=>exact bAny_ok hh R e vr
 | 5,e=>exact bList_ok R e vr
 | _ + 6,e=>exact ff e
end
section
variable{Z:SA}{w:World}{hd:Bool}{X:Addr→Prop}{γ γ' γ₁ γ₂:Gh}{h h':Heap}{s s' s₁ s₂:Shared}{H H':HT}{n n' N:Nat}{A:Around}{env:Env}{l l':FL}{k kx:KV}{ks ks':KS}{sc:List (PS × NameKind)}
noncomputable def Gh.inst(γ:Gh)(sz n:Nat):Gh:=(γ.take sz (.obj n 1)).take (sz + 1) (.obj n 0)
theorem Gh.inst0(γ:Gh)(sz n:Nat):(γ.inst sz n).own (sz + 1)=.obj n 0:=Gh.take_self ..
theorem Gh.inst1(γ:Gh)(sz n:Nat):(γ.inst sz n).own sz=.obj n 1:=(Gh.take_ne _ _ (Nat.ne_of_lt (Nat.lt_succ_self _))).trans (Gh.take_self ..)
theorem Gh.inst_ne(γ:Gh)(sz n:Nat){b:Addr}(h1:b≠sz)(h2:b≠sz + 1):(γ.inst sz n).own b=γ.own b:=(Gh.take_ne _ _ h2).trans (Gh.take_ne _ _ h1)
theorem instHeap(h:Heap)(C:Addr):((h.push emptyDict).push (instObj C h.objs.size)).objs.size=h.objs.size + 2∧((h.push emptyDict).push (instObj C h.objs.size)).get? (h.objs.size + 1)=some (instObj C h.objs.size)∧((h.push emptyDict).push (instObj C h.objs.size)).get? h.objs.size=some emptyDict:=by
 have z:(h.push emptyDict).objs.size=h.objs.size + 1:=Heap.size_push ..
 refine ⟨by rw [Heap.size_push,z],?_,Heap.get?_push_of_some _ (Heap.get?_push_size _ rfl)⟩
 have:=Heap.get?_push_size (h.push emptyDict) (o:=instObj C h.objs.size) rfl
 rwa [z] at this
theorem Rel.newInst(x:Rel Z w γ H n s){c:Nat}{cd:CD}(hcd:clT.get c=some cd)(hk:cd.kind≠2)(hH:∀ j,H'.get j=if j=n then .inst c .nil else H.get j) :
  Rel Z w (γ.inst s.heap.objs.size n) H' (n + 1) { s with heap:=(s.heap.push emptyDict).push (instObj (Z.clA c) s.heap.objs.size) }∧Kp NX γ s.heap (γ.inst s.heap.objs.size n) ((s.heap.push emptyDict).push (instObj (Z.clA c) s.heap.objs.size)):=by
 obtain⟨z,g1,g2⟩:=instHeap s.heap (Z.clA c)
 have keep:∀ b o,s.heap.get? b=some o→((s.heap.push emptyDict).push (instObj (Z.clA c) s.heap.objs.size)).get? b=some o:=fun b o e=>Heap.get?_push_of_some _ (Heap.get?_push_of_some _ e)
 generalize (s.heap.push emptyDict).push (instObj (Z.clA c) s.heap.objs.size)=h' at z g1 g2 keep
 have fr0:=x.freshFree (Nat.le_refl s.heap.objs.size)
 have fr1:=x.freshFree (Nat.le_succ s.heap.objs.size)
 have ne:s.heap.objs.size + 1≠s.heap.objs.size:=Nat.succ_ne_self _
 have K:Kp NX γ s.heap (γ.inst s.heap.objs.size n) h':=((Kp.more keep (by rw [z];omega)).take _ (Nat.le_refl _) (by rw [fr0];exact Ow.noConfusion)).takeG _ (Nat.le_succ _) (by rw [Gh.take_ne _ _ ne,fr1];exact Ow.noConfusion)
 have gone:∀ b p,γ.own b≠.obj n p:=by
  have:=x.obj n
  rw [(x.fresh n (Nat.le_refl n)).1] at this
  exact this
 refine ⟨x.upd K ⟨rfl,rfl⟩ n (fun b i p _ q=>?_) (fun b i p e=>?_) ?_ (fun i e=>by rw [hH,if_neg e]) (fun b q=>?_) (Nat.le_succ n) (Nat.lt_succ_self n) (fun i e=>(x.fresh i (by omega)).2) (fun i e=>?_) (fun e=>e) rfl (Nat.le_refl _),K⟩
 ·obtain⟨ob,g⟩:=x.there q
  rw [g];exact keep _ _ g
 ·by_cases q:b=s.heap.objs.size
  ·subst q;rw [Gh.inst1,fr0]
   constructor
   ·intro z;cases z;exact absurd rfl e
   ·intro z;cases z
  ·by_cases q2:b=s.heap.objs.size + 1
   ·subst q2;rw [Gh.inst0,fr1]
    constructor
    ·intro z;cases z;exact absurd rfl e
    ·intro z;cases z
   ·rw [Gh.inst_ne _ _ _ q q2]
 ·rw [hH,if_pos rfl]
  refine ⟨_,_,fun _=>none,cd,hcd,hk,fun x v e=>(by cases e),⟨Gh.inst0 ..,Gh.inst1 ..,fun b p q=>?_⟩,g1,Heap.Ns1.of_empty ⟨_,#[],0,g2,rfl,(fun e he=>absurd he (by simp)),fun y=>rfl⟩,(fun x v e=>(by cases e)),(fun y rv e=>(by cases e))⟩
  by_cases e1:b=s.heap.objs.size
  ·exact .inr e1
  ·by_cases e2:b=s.heap.objs.size + 1
   ·exact .inl e2
   ·rw [Gh.inst_ne _ _ _ e1 e2] at q
    exact absurd q (gone b p)
 ·show b < h'.objs.size
  rw [z]
  by_cases e1:b=s.heap.objs.size
  ·subst e1;exact Nat.lt_succ_of_lt (Nat.lt_succ_self _)
  ·by_cases e2:b=s.heap.objs.size + 1
   ·subst e2;exact Nat.lt_succ_self _
   ·rw [Gh.inst_ne _ _ _ e1 e2] at q
    exact Nat.lt_succ_of_lt (Nat.lt_succ_of_lt (x.bnd b q))
 ·have:=x.obi i e
  rw [hH]
  by_cases q:i=n
  ·rw [q,(x.fresh n (Nat.le_refl n)).1] at this;cases this
  ·rw [if_neg q];exact this
noncomputable def PrimOk(Z:SA)(w:World):Prop:=∀ (hd:Bool) (A:Around) (env:Env) (N f:Nat) (vs:VL) (H:HT) (n:Nat) (k kx:KV) (γ:Gh) (s:Shared) (rvs:List Value),
 A.depth + 1 + 3 * N≤690→A.units + 3 + 12 * N≤5000→HdOk A hd γ s.heap→FrOk A γ s.heap env→Rel Z w γ H n s→VRs Z γ s.heap vs rvs→primK f vs H n k=true→codeAny (model prog w) A (.call (.ref (Z.fnA f)) ⟨rvs,[]⟩) (CallR Z w γ s k kx) s
structure TabOk(Z:SA)(w:World):Prop extends KC Z w where
 fn:∀ i fd,fnT.get i=some fd→FnJ Z w (Z.fnA i) fd
 mks:∀ c cd i,clT.get c=some cd→cd.kind≠2→assoc cd.mths nInit=some i→makesIn (Z.K w.params) (Z.clA c)=true∧findIn (Z.K w.params) (.ref (Z.clA c)) "__init__" = some (some (.ref (Z.fnA i)))∧typeIn (Z.K w.params) (.ref (Z.fnA i))=some (.type "function")
 prm:PrimOk Z w
theorem fnK_ok(T:TabOk Z w){i:Nat}{vs:VL}{rvs:List Value}(C:SndC Z w N)(a1:A.depth + 1 + 3 * N≤690)(a2:A.units + 3 + 12 * N≤5000)(hh:HdOk A hd γ s.heap){env₀:Env}(fr:FrOk A γ s.heap env₀)(R:Rel Z w γ H n s)(vr:VRs Z γ s.heap vs rvs)
  (q:fnK fnT (mk fnT FDeed N hd) i vs H n k kx=true):codeAny (model prog w) A (.call (.ref (Z.fnA i)) ⟨rvs,[]⟩) (CallR Z w γ s k kx) s:=by
 unfold fnK at q
 cases h:fnT.get i with
 | none=>rw [h] at q;exact T.prm hd A env₀ N i vs H n k kx γ s rvs a1 a2 hh fr R vr q
 | some fd=>rw [h] at q;exact call_fn (T.fn i fd h) C a1 a2 hh fr R vr q
theorem under_make{C:Addr}{rest:List Value}:(A.under (.builtin "type.__call__" ⟨.ref C :: rest,[]⟩)).depth=A.depth + 1∧(A.under (.builtin "type.__call__" ⟨.ref C :: rest,[]⟩)).units=A.units + 1∧(A.under (.builtin "type.__call__" ⟨.ref C :: rest,[]⟩)).handled=A.handled∧(A.under (.builtin "type.__call__" ⟨.ref C :: rest,[]⟩)).frames=A.frames:=by
 refine ⟨rfl,rfl,rfl,?_⟩
 have:∀ o:Option (List Env),pushEnvs (Code.builtin "type.__call__" ⟨.ref C :: rest,[]⟩).envs o=o:=fun o=>by cases o <;> rfl
 exact this _
theorem make_ok(T:TabOk Z w){c i:Nat}{cd:CD}(hcd:clT.get c=some cd)(hk:cd.kind≠2)(hi:assoc cd.mths nInit=some i)(R:Rel Z w γ H n s){rvs:List Value}{RR:Result→Shared→Prop}
  (q:codeAny (model prog w) (A.under (.builtin "type.__call__" ⟨.ref (Z.clA c) :: rvs,[]⟩)) (.call (.ref (Z.fnA i)) ⟨.ref (s.heap.objs.size + 1) :: rvs,[]⟩) (InitBack (s.heap.objs.size + 1) RR) { s with heap:=(s.heap.push emptyDict).push (instObj (Z.clA c) s.heap.objs.size) }) :
  codeAny (model prog w) A (.call (.ref (Z.clA c)) ⟨rvs,[]⟩) RR s:=by
 obtain⟨m1,m2,m3⟩:=T.mks c cd i hcd hk hi
 have st:=R.st
 obtain⟨hh,g,d,t,os⟩:=s
 exact make_core (makes_of st m1) (looks_findIn st m2) (fun self=>bind_fn st self m3) (.inl rfl) q
structure NewI(Z:SA)(w:World)(N:Nat)(hd:Bool)(γ:Gh)(n:Nat)(s s1:Shared)(env₀:Env)(H1:HT)(A':Around):Prop where
 a1:A'.depth + 1 + 3 * N≤690
 a2:A'.units + 3 + 12 * N≤5000
 hh:HdOk A' hd (γ.inst s.heap.objs.size n) s1.heap
 fr:FrOk A' (γ.inst s.heap.objs.size n) s1.heap env₀
 R:Rel Z w (γ.inst s.heap.objs.size n) H1 (n + 1) s1
 K:Kp NX γ s.heap (γ.inst s.heap.objs.size n) s1.heap
theorem new_run(T:TabOk Z w){c i:Nat}{cd:CD}{H1:HT}(a:AOk (N + 1) A)(hh:HdOk A hd γ s.heap){env₀:Env}(fr:FrOk A γ s.heap env₀)(R:Rel Z w γ H n s)(hcd:clT.get c=some cd)(hk:cd.kind≠2)(hi:assoc cd.mths nInit=some i)(hH:∀ j,H1.get j=if j=n then .inst c .nil else H.get j){rvs:List Value}{RR:Result→Shared→Prop}
  (q:∀ A',NewI Z w N hd γ n s { s with heap:=(s.heap.push emptyDict).push (instObj (Z.clA c) s.heap.objs.size) } env₀ H1 A'→codeAny (model prog w) A' (.call (.ref (Z.fnA i)) ⟨.ref (s.heap.objs.size + 1) :: rvs,[]⟩) (InitBack (s.heap.objs.size + 1) RR) { s with heap:=(s.heap.push emptyDict).push (instObj (Z.clA c) s.heap.objs.size) }) :
  codeAny (model prog w) A (.call (.ref (Z.clA c)) ⟨rvs,[]⟩) RR s:=by
 obtain⟨R1,K1⟩:=R.newInst hcd hk hH
 obtain⟨u1,u2,u3,u4⟩:=under_make (A:=A) (C:=Z.clA c) (rest:=rvs)
 have ad:=a.depth
 have au:=a.units
 refine make_ok T hcd hk hi R (q _ ⟨by rw [u1];omega,by rw [u2];omega,⟨fun z=>u3.trans ((hh.mono K1).1 z),by rw [u3];exact (hh.mono K1).2⟩,?_,R1,K1⟩)
 obtain⟨fe,outer,f1,f2,f3,f4⟩:=fr.mono K1 R.bnd
 exact⟨fe,outer,u4.trans f1,f2,f3,f4⟩
theorem new0_ok(T:TabOk Z w){c i:Nat}{cd:CD}{vs:VL}{rvs:List Value}(C:SndC Z w N)(a:AOk (N + 1) A)(hh:HdOk A hd γ s.heap){env₀:Env}(fr:FrOk A γ s.heap env₀)(R:Rel Z w γ H n s)(vr:VRs Z γ s.heap vs rvs)(hcd:clT.get c=some cd)(hk:cd.kind≠2)(hi:assoc cd.mths nInit=some i)
  (q:newO (.inst c .nil) H n (fun self h1 n1=>fnK fnT (mk fnT FDeed N hd) i (self :: vs) h1 n1 (fun r h2 n2=>@Bool.rec (fun _=>Bool) false (k self h2 n2) (isNo r)) kx)=true):codeAny (model prog w) A (.call (.ref (Z.clA c)) ⟨rvs,[]⟩) (CallR Z w γ s k kx) s:=by
 obtain⟨H1,q,hH⟩:=newO_spec q
 refine new_run T a hh fr R hcd hk hi hH fun A' ⟨a1,a2,hh1,fr1,R1,K1⟩=>?_
 refine codeAny_mono (fnK_ok (env₀:=env₀) T C a1 a2 hh1 fr1 R1 (.cons (.ref (Gh.inst0 ..)) (vr.mono K1 R.bnd)) q) fun r s2 z=>?_
 cases r with
 | error e=>exact PostX.up (s':={ s with heap:=(s.heap.push emptyDict).push (instObj (Z.clA c) s.heap.objs.size) }) K1 ⟨rfl,rfl,rfl⟩ z
 | ok f=>cases f with
  | ret v =>
   obtain⟨u,H2,n2,γ2,q2,R2,K2,vr2,F2⟩:=z
   obtain⟨q1,q2⟩:=brecT q2
   ·obtain rfl:=isNo_ok q1 vr2
    refine ⟨rfl,.ref n,H2,n2,γ2,q2,R2,K1.trans K2,.ref ((K2.own _ ?_).trans (Gh.inst0 ..)),F2.hp⟩
    exact R1.bnd _ (by rw [Gh.inst0];exact Ow.noConfusion)
  | _=>exact z
end
structure Refit(S:Nat→Prop)(γ γ₂ γ₃:Gh):Prop where
 none:∀ b i p,S i→γ.own b≠.obj i p
 keep:∀ b i p,¬ S i→(γ₃.own b=.obj i p↔γ₂.own b=.obj i p)
 free:∀ b,γ₂.own b=.free→γ₃.own b=.free
 exn:∀ b,γ₂.own b=.exn→γ₃.own b=.exn
 sg:γ₃.sg=γ₂.sg
 nu:γ₃.nu=γ₂.nu
 rho:∀ i r,γ.rho i≠Option.none→γ₂.rho i=some r→γ₃.rho i=some r
 pre:γ₃.pre=γ₂.pre
 scr:γ₃.scr=γ₂.scr
section
variable{Z:SA}{w:World}{S:Nat→Prop}{γ γ₂ γ₃:Gh}{h h₂:Heap}
theorem Refit.tr(f:Refit S γ γ₂ γ₃):Tr (Has γ) γ₂ γ₃ h₂ h₂ :=
 ⟨fun _ _ e g=>⟨e,f.free _ g⟩,fun _ o fs e g d=>⟨f.exn _ g,fs,by rw [e];cases o;dsimp only at d;rw [d]⟩,fun b i r e=>by
  obtain⟨a,ha⟩:=r.1 rfl
  exact (f.keep _ _ _ (fun z=>f.none _ _ _ z ha)).mpr e,fun s a e=>⟨by rw [f.sg];exact e,by rw [f.nu]⟩,fun i r h e=>f.rho i r (h.2 rfl) e,fun _=>by unfold Gh.bs;rw [f.pre]⟩
theorem VR.sw(f:Refit S γ γ₂ γ₃){v:V}{rv rv₂:Value}(x:VR Z γ h v rv)(y:VR Z γ₂ h₂ v rv₂):VR Z γ₃ h₂ v rv₂:=y.map f.tr fun i hi=>x.has i hi
theorem VRs.sw(f:Refit S γ γ₂ γ₃){v:List V}{rv rv₂:List Value}(x:VRs Z γ h v rv)(y:VRs Z γ₂ h₂ v rv₂):VRs Z γ₃ h₂ v rv₂:=y.map f.tr fun i hi=>x.has i hi
set_option tactic.hygienic true in
theorem PreR.sw(f:Refit S γ γ₂ γ₃){p:Nat}{pre:List Value}(x:PreR γ₂ h₂ p pre):PreR γ₃ h₂ p pre:=by
 unfold PreR at x ⊢
 split
 ·rename_i e;rw [if_pos e] at x;exact x
 ·rename_i e
  rw [if_neg e] at x
  rw [f.pre]
  refine ⟨x.1,fun i rv zs e1 e2=>?_⟩
  obtain⟨a,ws,n,q1,q2,q3,q4,q5⟩:=x.2 i rv zs e1 e2
  exact⟨a,ws,n,q1,f.free _ q2,q3,q4,q5⟩
theorem ObjR.sw(f:Refit S γ γ₂ γ₃){i:Nat}{o:O}(hob:γ.obi=some i→γ₃.obi=some i)(hsg:∀ s a,γ.sg s=some a→γ₂.sg s=some a)(hi:¬ S i)(x:ObjR Z w γ h i o)(y:ObjR Z w γ₂ h₂ i o):ObjR Z w γ₃ h₂ i o:=by
 have k:∀ b p,(γ₃.own b=.obj i p↔γ₂.own b=.obj i p):=fun b p=>f.keep b i p hi
 cases o with
 | gone=>exact fun b p e=>y b p ((k b p).mp e)
 | inst c fs =>
  obtain⟨_,_,m0,_,_,_,_,_,_,_,r0⟩:=x
  obtain⟨a,d,m,cd,hcd,hk2,hfl,⟨o1,o2,o3⟩,g,nsd,r⟩:=y
  refine ⟨a,d,m,cd,hcd,hk2,hfl,⟨(k _ _).mpr o1,(k _ _).mpr o2,fun b p e=>o3 b p ((k _ _).mp e)⟩,g,nsd,fun z v e=>?_,r.2⟩
  obtain⟨rv0,_,v0⟩:=r0.1 z v e
  obtain⟨rv,e1,v1⟩:=r.1 z v e
  exact⟨rv,e1,v0.sw f v1⟩
 | lst p vs =>
  obtain⟨_,_,_,_,_,_,_,v0,_⟩:=x
  obtain⟨a,pre,ws,n,⟨o1,o2⟩,g,pr,v,b,b2⟩:=y
  exact⟨a,pre,ws,n,⟨(k _ _).mpr o1,fun b p e=>o2 b p ((k _ _).mp e)⟩,g,pr.sw f,v0.sw f v,b,b2⟩
 | dic kd fs =>
  obtain⟨_,_,_,_,d0⟩:=x
  obtain⟨a,es,⟨o1,o2⟩,D,d⟩:=y
  refine ⟨a,es,⟨(k _ _).mpr o1,fun b p e=>o2 b p ((k _ _).mp e)⟩,D,?_⟩
  refine ⟨?_,d.2,fun s a v e1 e2=>?_,?_,?_⟩
  ·rw [f.sg,f.nu];exact d.1
  ·rw [f.sg] at e1;rw [f.nu]
   obtain⟨a0,q0⟩:=d0.5 s v e2
   obtain⟨_,_,v0⟩:=d0.3 s a0 v q0 e2
   obtain⟨rv,q1,v1⟩:=d.3 s a v e1 e2
   exact⟨rv,q1,v0.sw f v1⟩
  ·rw [f.sg,f.nu];exact d.4
  ·rw [f.sg];exact d.5
 | obar =>
  obtain⟨_,_,_,_,_,_,_,_,_,b0,_⟩:=x
  obtain⟨a,d,lr,ld,m,rows,nr,kvs,⟨o1,o2,o3,o4,o5⟩,b,r1,r2,r3,r4,r5,r6,r7,r8,r9,r10,r11⟩:=y
  refine ⟨a,d,lr,ld,m,rows,nr,kvs,⟨(k _ _).mpr o1,(k _ _).mpr o2,(k _ _).mpr o3,(k _ _).mpr o4,fun b p e=>o5 b p ((k _ _).mp e)⟩,hob b0,r1,r2,r3,r4,r5,r6,r7,r8,r9,?_,?_⟩
  ·rw [f.sg];exact r10
  ·rw [f.sg,f.nu];exact r11
 | sdic vx vy =>
  obtain⟨_,_,_,_,_,c1,c2⟩:=x
  obtain⟨a,v₁,v₂,⟨o1,o2⟩,D,d1,d2⟩:=y
  exact⟨a,v₁,v₂,⟨(k _ _).mpr o1,fun b p e=>o2 b p ((k _ _).mp e)⟩,D,c1.sw f d1,c2.sw f d2⟩
 | ntab d =>
  obtain⟨a,ob,⟨o1,o2⟩,r,r2,r3⟩:=y
  exact⟨a,ob,⟨(k _ _).mpr o1,fun b p e=>o2 b p ((k _ _).mp e)⟩,r,r2,r3⟩
 | deck =>
  obtain⟨a,c,e,⟨o1,o2,o3,o4⟩,r⟩:=y
  exact⟨a,c,e,⟨(k _ _).mpr o1,(k _ _).mpr o2,(k _ _).mpr o3,fun b p e=>o4 b p ((k _ _).mp e)⟩,r⟩
end
section
variable{Z:SA}{w:World}{S:Nat→Prop}{γ γ₂ γ₃:Gh}{h h₂:Heap}{s s₂:Shared}{H H₂ H₃:HT}{n n₂ n₃:Nat}
structure Owns(S:Nat→Prop)(γ₂:Gh)(f:Addr→Ow):Prop where
 same:∀ b,(∀ i p,S i→γ₂.own b≠.obj i p)→f b=γ₂.own b
 new:∀ b i p,S i→γ₂.own b=.obj i p→f b=.free∨∃ j q,f b=.obj j q∧S j
noncomputable def Gh.refit(γ₂:Gh)(n:Nat)(f:Addr→Ow)(ob:Option Nat):Gh:={ γ₂ with own:=f,rho:=fun i=>if i < n then γ₂.rho i else none,obi:=ob }
theorem Owns.cases{f:Addr→Ow}(o:Owns S γ₂ f)(b:Addr):f b=γ₂.own b∨∃ i p,S i∧γ₂.own b=.obj i p∧(f b=.free∨∃ j q,f b=.obj j q∧S j):=by
 by_cases e:∃ i p,S i∧γ₂.own b=.obj i p
 ·obtain⟨i,p,h1,h2⟩:=e
  exact .inr ⟨i,p,h1,h2,o.new b i p h1 h2⟩
 ·exact .inl (o.same b fun i p h1 h2=>e ⟨i,p,h1,h2⟩)
theorem Owns.keep{f:Addr→Ow}(o:Owns S γ₂ f){b:Addr}{x:Ow}(hx:∀ i p,x≠.obj i p)(e:γ₂.own b=x):f b=x:=by
 rw [o.same b fun i p _ h2=>hx i p (e.symm.trans h2)];exact e
theorem Owns.obj{f:Addr→Ow}(o:Owns S γ₂ f){b:Addr}{i p:Nat}(hi:¬ S i):f b=.obj i p↔γ₂.own b=.obj i p:=by
 rcases o.cases b with e | ⟨j,q,h1,h2,e | ⟨j',q',e,h3⟩⟩
 ·rw [e]
 ·rw [e,h2]
  constructor
  ·intro z;cases z
  ·intro z;cases z;exact absurd h1 hi
 ·rw [e,h2]
  constructor
  ·intro z;cases z;exact absurd h3 hi
  ·intro z;cases z;exact absurd h1 hi
set_option tactic.hygienic true in
theorem ChainOk.sw(ke:∀ b,γ₂.own b=.exn→γ₃.own b=.exn){e:Addr}(x:ChainOk γ₂ h e):ChainOk γ₃ h e:=by
 induction x with
 | last a b c d=>exact .last a b (ke _ c) d
 | next a b c d lt _ ih=>exact .next a b (ke _ c) d lt ih
theorem refit{f:Addr→Ow}{ob:Option Nat}(R:Rel Z w γ H n s)(K:Kp NX γ s.heap γ₂ s₂.heap)(R₂:Rel Z w γ₂ H₂ n₂ s₂)(o:Owns S γ₂ f)(hS:∀ i,S i→n≤i)(hn:n≤n₃)
  (h2:∀ i,¬ S i→H₂.get i=H.get i) (h3:∀ i,¬ S i→H₃.get i=H.get i) (hg:∀ i,S i→n₃≤i→H₃.get i=.gone) (hob:∀ i,S i→ObjR Z w (γ₂.refit n f ob) s₂.heap i (H₃.get i))
  (o1:∀ i,ob=some i→H₃.get i=.obar) (o2:ob=none→γ₂.obi=none) (o3:∀ i,γ.obi=some i→ob=some i) :
  Rel Z w (γ₂.refit n f ob) H₃ n₃ s₂∧Kp NX γ s.heap (γ₂.refit n f ob) s₂.heap∧Refit S γ γ₂ (γ₂.refit n f ob):=by
 have nS:∀ b i p,S i→γ.own b≠.obj i p:=fun b i p hi=>by
  have:=R.obj i
  rw [(R.fresh i (hS i hi)).1] at this
  exact this b p
 have rf:Refit S γ γ₂ (γ₂.refit n f ob):=by
  refine ⟨nS,fun b i p hi=>o.obj hi,fun b e=>o.keep (fun _ _=>Ow.noConfusion) e,fun b e=>o.keep (fun _ _=>Ow.noConfusion) e,rfl,rfl,fun i r e0 e=>?_,rfl,rfl⟩
  show (if i < n then γ₂.rho i else none)=some r
  by_cases q:i < n
  ·rw [if_pos q];exact e
  ·exact absurd (R.fresh i (Nat.le_of_not_lt q)).2 e0
 have old:∀ b,b < s.heap.objs.size→f b=γ.own b:=fun b hb=>by
  rw [← K.own b hb]
  exact o.same b fun i p hi=>by rw [K.own b hb];exact nS b i p hi
 have ke:∀ b,γ₂.own b=.exn→(γ₂.refit n f ob).own b=.exn:=rf.exn
 refine ⟨⟨R₂.st,fun a ob e=>rf.free _ (R₂.stf a ob e),fun b e=>R₂.bnd b fun z=>e (rf.free _ z),fun i=>?_,fun i hi=>⟨?_,?_⟩,?_,o1,fun e=>R₂.sym0 (o2 e),R₂.lim,rf.free _ R₂.limf,R₂.gens,R₂.tkn⟩,
  ⟨K.size,old,K.free,K.env,K.itr,fun b oo fs e1 e2 e3=>?_,K.sg,fun i r e=>?_,K.pre,K.scr,o3⟩,rf⟩
 ·by_cases hi:S i
  ·exact hob i hi
  ·have y:=R₂.obj i
   rw [h2 i hi] at y
   rw [h3 i hi]
   exact ObjR.sw rf (o3 i) (fun s a e=>(K.sg s a e).1) hi (R.obj i) y
 ·by_cases hi':S i
  ·exact hg i hi' hi
  ·rw [h3 i hi'];exact (R.fresh i (Nat.le_trans hn hi)).1
 ·show (if i < n then γ₂.rho i else none)=none
  rw [if_neg (Nat.not_lt.mpr (Nat.le_trans hn hi))]
 ·obtain⟨a,b,c,d,e⟩:=R₂.sym
  refine ⟨fun s ad q=>?_,b,c,d,e⟩
  obtain⟨f0,f1,dd,m,t1,t2,g,f2,r,r2,r3,r4⟩:=a s ad q
  exact⟨f0,rf.free _ f1,dd,m,t1,t2,g,rf.free _ f2,r,r2,r3,r4⟩
 ·obtain⟨fs',g,z,q,t⟩:=K.exn b oo fs e1 e2 e3
  refine ⟨fs',g,z,q.imp id fun⟨q0,⟨c,q1,q2,q3⟩⟩=>⟨q0,⟨c,q1,q2,q3.sw ke⟩⟩,fun x=>?_⟩
  obtain⟨T,oT,ts,a1,a2,a3,a4,a5,a6⟩:=t x
  exact⟨T,oT,ts,a1,ke _ a2,a3,a4,a5,a6⟩
 ·have q:i < n:=by
   by_cases q:i < n
   ·exact q
   ·rw [(R.fresh i (Nat.le_of_not_lt q)).2] at e;cases e
  show (if i < n then γ₂.rho i else none)=some r
  rw [if_pos q];exact K.rho i r e
end
theorem FL.setK_true{x:Nat}{v:V}:∀ {l:FL} {k:FL→Bool},(∀ l',(∀ y,l'.look y=if y=x then some v else l.look y)→k l'=true)→l.setK x v k=true:=by
 intro l
 induction l with
 | nil =>
  intro k q
  refine q (.cons x v .nil) fun y=>?_
  rw [FL.look_cons]
  by_cases e:x=y
  ·rw [if_pos e,if_pos e.symm]
  ·rw [if_neg e,if_neg (fun z=>e z.symm)]
 | cons a u r ih =>
  intro k q
  show @Bool.rec (fun _=>Bool) (r.setK x v fun r'=>k (.cons a u r')) (k (.cons a v r)) (Nat.beq a x)=true
  rw [beqE a x]
  by_cases e:a=x
  ·rw [decide_eq_true e]
   refine q (.cons a v r) fun y=>?_
   rw [FL.look_cons,FL.look_cons]
   by_cases g:y=x
   ·rw [if_pos (e.trans g.symm),if_pos g]
   ·rw [if_neg (fun z=>g (z.symm.trans e)),if_neg g,if_neg (fun z=>g (z.symm.trans e))]
  ·rw [decide_eq_false e]
   refine ih fun r' hr=>q _ fun y=>?_
   rw [FL.look_cons,FL.look_cons,hr]
   by_cases g:a=y
   ·rw [if_pos g,if_pos g,if_neg (fun z=>e (g.trans z))]
   ·rw [if_neg g,if_neg g]
theorem ho2{i j m:Nat}(h:i + 2≤m * 2)(e:2 * j + 1=i):j + 2≤m:=by omega
theorem he2{i j m:Nat}(h:i + 2≤m * 2)(e:2 * j + 2=i):j + 2≤m:=by omega
theorem HT.single_true{o:O}:∀ (f i:Nat) {k:HT→Bool},i + 2≤2 ^ f→(∀ t,(∀ j,t.get j=if j=i then o else .gone)→k t=true)→HT.single o f i k=true:=by
 intro f
 induction f with
 | zero=>intro i k hi;exact absurd (Nat.le_of_succ_le_succ hi) (Nat.not_succ_le_zero _)
 | succ f ih =>
  intro i k hi q
  show @Bool.rec (fun _=>Bool) (@Bool.rec (fun _=>Bool) (HT.single o f (i / 2 - 1) fun r=>k (.node .gone .nil r)) (HT.single o f (i / 2) fun l=>k (.node .gone l .nil)) (Nat.beq (i % 2) 1)) (k (.node o .nil .nil)) (Nat.beq i 0)=true
  rw [Nat.pow_succ] at hi
  cases h:Nat.beq i 0 with
  | true=>obtain rfl:=beqT h;exact q _ fun j=>(HT.get_upd0 j).trans (by rw [HT.get_gone])
  | false =>
   have h:=beqF h
   cases p:Nat.beq (i % 2) 1 with
   | true=>exact ih _ (ho2 hi (odd_at (beqT p))) fun t ht=>q _ fun j=>(HT.get_updL h (beqT p) (l:=.nil) ht j).trans (by rw [HT.get_gone])
   | false=>exact ih _ (he2 hi (even_at h (beqF p))) fun t ht=>q _ fun j=>(HT.get_updR h (beqF p) (l:=.nil) ht j).trans (by rw [HT.get_gone])
theorem HT.setK_true{o:O}:∀ {t:HT} {i:Nat} {k:HT→Bool},i≤1000000→(∀ t',(∀ j,t'.get j=if j=i then o else t.get j)→k t'=true)→t.setK o i k=true:=by
 intro t
 induction t with
 | nil=>intro i k hi q;exact HT.single_true 24 i (Nat.le_trans (Nat.add_le_add_right hi 2) (by decide)) q
 | node v l r ihl ihr =>
  intro i k hi q
  show @Bool.rec (fun _=>Bool) (@Bool.rec (fun _=>Bool) (r.setK o (i / 2 - 1) fun r=>k (.node v l r)) (l.setK o (i / 2) fun l=>k (.node v l r)) (Nat.beq (i % 2) 1)) (k (.node o l r)) (Nat.beq i 0)=true
  have hz:i / 2≤1000000:=Nat.le_trans (Nat.div_le_self _ _) hi
  cases h:Nat.beq i 0 with
  | true=>obtain rfl:=beqT h;exact q _ HT.get_upd0
  | false =>
   have h:=beqF h
   cases p:Nat.beq (i % 2) 1 with
   | true=>exact ihl hz fun t ht=>q _ (HT.get_updL h (beqT p) ht)
   | false=>exact ihr (Nat.le_trans (Nat.sub_le _ _) hz) fun t ht=>q _ (HT.get_updR h (beqF p) ht)
noncomputable def initB(fs:List Nat):SM:=fs.foldr (fun f r=>Yc (Yz (Xl 2) f (Xl f)) r) Yn
theorem asgA_true{r:RR}{l:FL}{n c f:Nat}{cd:CD}{H:HT}{as:FL}{v:V}{n':Nat}{ks:KS}(hcd:clT.get c=some cd)(hm:memN cd.flds f=true)(hs:l.look 2=some (.ref n))(hf:l.look f=some v)(hH:H.get n=.inst c as)
  (q:as.setK f v (fun fs'=>setO n (.inst c fs') H fun h'=>ks.nx l h' n')=true):Yz (Xl 2) f (Xl f) r l H n' ks=true:=by
 show optK (l.look f) (fun v=>optK (l.look 2) fun w=>_)=true
 rw [hf,hs]
 show (match H.get n with | .inst c fs=>optK (clT.get c) fun cd=>@Bool.rec (fun _=>Bool) false (fs.setK f v fun fs'=>setO n (.inst c fs') H fun h'=>ks.nx l h' n') (memN cd.flds f) | _=>false)=true
 rw [hH]
 show optK (clT.get c) (fun cd=>@Bool.rec (fun _=>Bool) false (as.setK f v fun fs'=>setO n (.inst c fs') H fun h'=>ks.nx l h' n') (memN cd.flds f))=true
 rw [hcd]
 show @Bool.rec (fun _=>Bool) false (as.setK f v fun fs'=>setO n (.inst c fs') H fun h'=>ks.nx l h' n') (memN cd.flds f)=true
 rw [hm];exact q
theorem initB_run{r:RR}{l:FL}{n c:Nat}{cd:CD}(hcd:clT.get c=some cd)(hs:l.look 2=some (.ref n))(hn:n≤100000):∀ (fs:List Nat) (H:HT) (as:FL) (n':Nat) (ks:KS),(∀ x∈fs,memN cd.flds x=true∧∃ v,l.look x=some v)→H.get n=.inst c as →
  (∀ H' as',(∀ j,j≠n→H'.get j=H.get j)→H'.get n=.inst c as'→(∀ x,x∈fs→as'.look x=l.look x)→(∀ x,x∉fs→as'.look x=as.look x)→ks.nx l H' n'=true)→initB fs r l H n' ks=true
 | [],H,as,n',ks,_,hH,q=>q H as (fun _ _=>rfl) hH (fun _ h=>nomatch h) fun _ _=>rfl
 | f :: fs,H,as,n',ks,hf,hH,q=>by
  obtain⟨hm,v,hv⟩:=hf f (.head _)
  show Yz (Xl 2) f (Xl f) r l H n' ⟨fun l h n=>initB fs r l h n ks,ks.rt,ks.bk,ks.xc⟩=true
  refine asgA_true hcd hm hs hv hH (FL.setK_true fun as1 h1=>HT.setK_true (by omega) fun H1 hH1=>?_)
  refine initB_run hcd hs hn fs H1 as1 n' ks (fun x hx=>hf x (.tail _ hx)) (by rw [hH1,if_pos rfl]) fun H' as' e1 e2 e3 e4=>?_
  refine q H' as' (fun j hj=>by rw [e1 j hj,hH1,if_neg hj]) e2 (fun x hx=>?_) fun x hx=>?_
  ·by_cases g:x∈fs
   ·exact e3 x g
   ·rw [e4 x g,h1]
    rcases List.mem_cons.mp hx with rfl | z
    ·rw [if_pos rfl,hv]
    ·exact absurd z g
  ·rw [e4 x (fun z=>hx (.tail _ z)),h1,if_neg (fun z=>hx (by rw [z];exact .head _))]
theorem zipP_mono:∀ (ps:List Nat) (vs ds:VL) (k1 k2:FL→Bool),(∀ l,(∀ y v,l.look y=some v→y∈ps∧(v∈vs∨v∈ds))→k1 l=true→k2 l=true)→zipP ps vs ds k1=true→zipP ps vs ds k2=true
 | [],vs,ds,k1,k2,h,q=>by
  cases vs with
  | nil=>exact h .nil (fun y v e=>by cases e) q
  | cons _ _=>cases q
 | x :: xs,vs,ds,k1,k2,h,q=>by
  have cons:∀ {v:V} {us:VL} {l:FL},(v∈vs∨v∈ds)→(∀ u,u∈us→u∈vs)→(∀ y v,l.look y=some v→y∈xs∧(v∈us∨v∈ds))→k1 (.cons x v l)=true→k2 (.cons x v l)=true:=by
   intro v us l hv hu hl e
   refine h _ (fun y u e2=>?_) e
   rw [FL.look_cons] at e2
   by_cases g:x=y
   ·rw [if_pos g] at e2;cases e2;exact⟨g ▸ .head _,hv⟩
   ·rw [if_neg g] at e2
    exact⟨.tail _ (hl y u e2).1,(hl y u e2).2.imp (hu u) id⟩
  cases vs with
  | nil =>
   have q:@Option.rec V (fun _=>Bool) false (fun d=>@Bool.rec (fun _=>Bool) false (zipP xs [] ds fun l=>k1 (.cons x d l)) (Nat.ble (xs.length + 1) ds.length)) (VL.at (ds.drop (ds.length - (xs.length + 1))) 0)=true:=q
   show @Option.rec V (fun _=>Bool) false (fun d=>@Bool.rec (fun _=>Bool) false (zipP xs [] ds fun l=>k2 (.cons x d l)) (Nat.ble (xs.length + 1) ds.length)) (VL.at (ds.drop (ds.length - (xs.length + 1))) 0)=true
   cases g:VL.at (ds.drop (ds.length - (xs.length + 1))) 0 with
   | none=>rw [g] at q;cases q
   | some d =>
    rw [g] at q
    have hd:d∈ds:=by
     cases g2:ds.drop (ds.length - (xs.length + 1)) with
     | nil=>rw [g2] at g;cases g
     | cons a b =>
      rw [g2] at g
      have:some a=some d:=g
      cases this
      have hm:d∈ds.drop (ds.length - (xs.length + 1)):=by rw [g2];exact .head _
      exact List.mem_of_mem_drop hm
    cases hb:Nat.ble (xs.length + 1) ds.length with
    | false=>rw [hb] at q;cases q
    | true =>
     rw [hb] at q
     exact zipP_mono xs [] ds _ _ (fun l hl e=>cons (us:=[]) (.inr hd) (fun u z=>nomatch z) hl e) q
  | cons v r=>exact zipP_mono xs r ds _ _ (fun l hl e=>cons (.inl (.head _)) (fun u z=>.tail _ z) hl e) q
theorem fieldsK_spec{l:FL}:∀ {ns:List Nat} {k:VL→Bool},fieldsK ns l k=true→∃ xs,k xs=true∧ns.map l.look=xs.map some
 | [],k,q=>⟨[],q,rfl⟩
 | x :: ns,k,q=>by
  have q:optK (l.look x) (fun v=>fieldsK ns l fun r=>k (v :: r))=true:=q
  cases g:l.look x with
  | none=>rw [g] at q;cases q
  | some v =>
   rw [g] at q
   obtain⟨xs,q,e⟩:=fieldsK_spec (k:=fun r=>k (v :: r)) q
   exact⟨v :: xs,q,by rw [List.map_cons,List.map_cons,e,g]⟩
theorem zipP_const{b:Bool}:∀ (ps:List Nat) (vs ds:VL),zipP ps vs ds (fun _=>b)=true→b=true
 | [],vs,ds,q=>by
  cases vs with
  | nil=>exact q
  | cons _ _=>cases q
 | x :: xs,vs,ds,q=>by
  cases vs with
  | nil =>
   have q:@Option.rec V (fun _=>Bool) false (fun d=>@Bool.rec (fun _=>Bool) false (zipP xs [] ds fun l=>b) (Nat.ble (xs.length + 1) ds.length)) (VL.at (ds.drop (ds.length - (xs.length + 1))) 0)=true:=q
   cases g:VL.at (ds.drop (ds.length - (xs.length + 1))) 0 with
   | none=>rw [g] at q;cases q
   | some d =>
    rw [g] at q
    cases hb:Nat.ble (xs.length + 1) ds.length with
    | false=>rw [hb] at q;cases q
    | true=>rw [hb] at q;exact zipP_const xs [] ds q
  | cons v r=>exact zipP_const xs r ds q
section
variable{Z:SA}{w:World}{hd:Bool}{X:Addr→Prop}{γ γ' γ₁ γ₂ γ₃:Gh}{h h' h₂:Heap}{s s' s₁ s₂:Shared}{H H':HT}{n n' N:Nat}{A:Around}{env:Env}{l l':FL}{k kx:KV}{ks ks':KS}{sc:List (PS × NameKind)}
noncomputable def FrzOk:Prop:=∀ c cd i fd,clT.get c=some cd→cd.kind=1→assoc cd.mths nInit=some i→fnT.get i=some fd→(∃ ps,fd.prms=2 :: ps)∧fd.body=initB cd.fields∧(∀ x∈cd.fields,memN cd.flds x=true)∧2∉cd.fields
theorem VRs.mem{vs:VL}{rvs:List Value}{v:V}(x:VRs Z γ h vs rvs)(e:v∈vs):∃ rv,VR Z γ h v rv:=by
 induction vs generalizing rvs with
 | nil=>cases e
 | cons u us ih =>
  obtain⟨_,_,_,a,b⟩:=x.consI
  rcases List.mem_cons.mp e with rfl | e
  ·exact⟨_,a⟩
  ·exact ih b e
theorem frz_list{S:Nat→Prop}(f:Refit S γ γ₂ γ₃){as:FL}{m:PS→Option Value}(fr:FR Z γ₂ h₂ as m):∀ (ns:List Nat) (xs:VL),ns.map as.look=xs.map some→(∀ v∈xs,∃ rv,VR Z γ h v rv)→∃ rvs,VRs Z γ₃ h₂ xs rvs∧ns.map (fun x=>m (nmS x))=rvs.map some
 | [],[],_,_=>⟨[],.nil,rfl⟩
 | [],_ :: _,e,_=>by cases e
 | _ :: _,[],e,_=>by cases e
 | x :: ns,v :: xs,e,hv=>by
  rw [List.map_cons,List.map_cons] at e
  obtain⟨e1,e2⟩:=List.cons.inj e
  obtain⟨rvs,v1,q1⟩:=frz_list f fr ns xs e2 fun u hu=>hv u (.tail _ hu)
  obtain⟨rv0,v0⟩:=hv v (.head _)
  obtain⟨rv,h1,h2⟩:=fr.1 x v e1
  exact⟨rv :: rvs,.cons (v0.sw f h2) v1,by rw [List.map_cons,List.map_cons,h1,q1]⟩
noncomputable def Gh.drop(γ₂:Gh)(n:Nat)(b:Addr):Ow:=match γ₂.own b with
 | .obj i p=>if i=n then .free else .obj i p
 | o=>o
theorem Gh.drop_obj{n:Nat}{b:Addr}{p:Nat}(e:γ₂.own b=.obj n p):γ₂.drop n b=.free:=by
 unfold Gh.drop;rw [e];exact if_pos rfl
theorem Gh.drop_owns(γ₂:Gh)(n:Nat):Owns (fun i=>i=n) γ₂ (γ₂.drop n):=by
 refine ⟨fun b hb=>?_,fun b i p hi e=>.inl (by subst hi;exact Gh.drop_obj e)⟩
 unfold Gh.drop
 cases e:γ₂.own b with
 | obj i p=>exact if_neg fun z=>hb i p z e
 | _=>rfl
theorem Gh.drop_none(γ₂:Gh)(n:Nat)(b:Addr)(p:Nat):γ₂.drop n b≠.obj n p:=by
 unfold Gh.drop
 cases e:γ₂.own b with
 | obj i q =>
  by_cases z:i=n
  ·show (if i=n then Ow.free else .obj i q)≠_;rw [if_pos z];exact Ow.noConfusion
  ·show (if i=n then Ow.free else .obj i q)≠_;rw [if_neg z];intro y;cases y;exact z rfl
 | _=>exact fun y=>by cases y
theorem new1_ok(T:TabOk Z w)(F:FrzOk){c i:Nat}{cd:CD}{vs:VL}{rvs:List Value}(C:SndC Z w N)(a:AOk (N + 1) A)(hh:HdOk A hd γ s.heap){env₀:Env}(fr:FrOk A γ s.heap env₀)(R:Rel Z w γ H n s)(vr:VRs Z γ s.heap vs rvs)(hcd:clT.get c=some cd)(hk:cd.kind=1)(hi:assoc cd.mths nInit=some i)
  (q:optK (fnT.get i) (fun fd=>zipP fd.prms (.a .unk :: vs) fd.dfl fun l=>fieldsK cd.fields l fun xs=>@Bool.rec (fun _=>Bool) false (k (.obj c xs) H n) (Nat.ble n 100000))=true):codeAny (model prog w) A (.call (.ref (Z.clA c)) ⟨rvs,[]⟩) (CallR Z w γ s k kx) s:=by
 have hk2:cd.kind≠2:=by rw [hk];decide
 cases hfd:fnT.get i with
 | none=>rw [hfd] at q;cases q
 | some fd =>
 rw [hfd] at q
 have q:zipP fd.prms (.a .unk :: vs) fd.dfl (fun l=>fieldsK cd.fields l fun xs=>@Bool.rec (fun _=>Bool) false (k (.obj c xs) H n) (Nat.ble n 100000))=true:=q
 obtain⟨⟨ps,hps⟩,hb,hm,h2⟩:=F c cd i fd hcd hk hi hfd
 have hn:n≤100000:=by
  refine Nat.le_of_ble_eq_true (zipP_const fd.prms (.a .unk :: vs) fd.dfl (zipP_mono _ _ _ _ _ (fun l _ e=>?_) q))
  obtain⟨xs,e,_⟩:=fieldsK_spec e
  cases g:Nat.ble n 100000 with
  | true=>rfl
  | false=>rw [g] at e;cases e
 obtain⟨H1,_,hH⟩:=HT.setK_spec (HT.setK_true (o:=.inst c .nil) (t:=H) (i:=n) (k:=fun _=>true) (Nat.le_trans hn (by decide)) fun _ _=>rfl)
 let K0:KV:=fun v H' n'=>@decide (v=.a .none∧∃ as xs,(∀ j,j≠n→H'.get j=H1.get j)∧H'.get n=.inst c as∧k (.obj c xs) H n=true∧cd.fields.map as.look=xs.map some∧(∀ y v,as.look y=some v→y∈cd.fields)∧∀ v∈xs,v∈vs∨v∈fd.dfl) (Classical.propDecidable _)
 have q':zipP fd.prms (.ref n :: vs) fd.dfl (fun l=>bodyK fd.body (mk fnT FDeed N hd) l H1 (n + 1) K0 (fun _ _ _=>false))=true:=by
  rw [hps] at q ⊢
  have q:zipP ps vs fd.dfl (fun l=>fieldsK cd.fields (.cons 2 (.a .unk) l) fun xs=>@Bool.rec (fun _=>Bool) false (k (.obj c xs) H n) (Nat.ble n 100000))=true:=q
  show zipP ps vs fd.dfl (fun l=>bodyK fd.body (mk fnT FDeed N hd) (.cons 2 (.ref n) l) H1 (n + 1) K0 (fun _ _ _=>false))=true
  refine zipP_mono _ _ _ _ _ (fun l hl e=>?_) q
  obtain⟨xs,e,hx⟩:=fieldsK_spec e
  have e:k (.obj c xs) H n=true:=by
   cases g:Nat.ble n 100000 with
   | true=>rw [g] at e;exact e
   | false=>rw [g] at e;cases e
  have lk:∀ {u:V} {x:Nat},x∈cd.fields→(FL.cons 2 u l).look x=l.look x:=fun hx=>by rw [FL.look_cons,if_neg (fun z=>h2 (by rw [z];exact hx))]
  have hx:cd.fields.map l.look=xs.map some:=by
   rw [← hx];exact List.map_congr_left fun x hx=>(lk hx).symm
  rw [hb]
  show initB cd.fields (mk fnT FDeed N hd) (.cons 2 (.ref n) l) H1 (n + 1) ⟨fun _ h n=>K0 (.a .none) h n,K0,fun _ _ _=>false,fun e _ h n=>false⟩=true
  have some_of:∀ x∈cd.fields,∃ v,l.look x=some v∧v∈xs:=fun x hxf=>by
   have:l.look x∈xs.map some:=hx ▸ List.mem_map.mpr ⟨x,hxf,rfl⟩
   obtain⟨v,h1,h2⟩:=List.mem_map.mp this
   exact⟨v,h2.symm,h1⟩
  refine initB_run hcd (by rw [FL.look_cons,if_pos rfl]) hn _ _ .nil _ _ (fun x hxf=>⟨hm x hxf,?_⟩) (by rw [hH,if_pos rfl]) fun H' as' e1 e2 e3 e4=>?_
  ·obtain⟨v,h1,_⟩:=some_of x hxf
   exact⟨v,(lk hxf).trans h1⟩
  ·refine @decide_eq_true _ (Classical.propDecidable _) ⟨rfl,as',xs,e1,e2,e,?_,fun y v hy=>?_,fun v hv=>?_⟩
   ·rw [← hx];exact List.map_congr_left fun x hx=>(e3 x hx).trans (lk hx)
   ·by_cases g:y∈cd.fields
    ·exact g
    ·rw [e4 y g] at hy;cases hy
   ·have:some v∈cd.fields.map l.look:=hx ▸ List.mem_map.mpr ⟨v,hv,rfl⟩
    obtain⟨x,_,h2⟩:=List.mem_map.mp this
    exact (hl x v h2).2
 have J:=T.fn i fd hfd
 have vdfl:∀ v∈fd.dfl,∃ rv,VR Z γ s.heap v rv:=by
  obtain⟨_,_,_,_,_,_,_,_,_,_,_,_,_,_,_,e12,_⟩:=J.of
  rcases e12 with ⟨d1,_⟩ | ⟨v,d,_,_,_,_,_,d1,_,_,_,_,d6⟩
  ·rw [d1];exact fun v e=>nomatch e
  ·rw [d1];intro u e
   rcases List.mem_cons.mp e with rfl | e
   ·exact⟨d,gv_ok R d6⟩
   ·cases e
 refine new_run T a hh fr R hcd hk2 hi hH fun A' ⟨a1,a2,hh1,fr1,R1,K1⟩=>?_
 refine codeAny_mono (call_fn (env₀:=env₀) J C a1 a2 hh1 fr1 R1 (.cons (.ref (Gh.inst0 ..)) (vr.mono K1 R.bnd)) q') fun r s2 z=>?_
 cases r with
 | error e=>obtain⟨_,_,_,_,q2,_⟩:=z;cases q2
 | ok f=>cases f with
  | ret v =>
   obtain⟨u,H2,n2,γ2,q2,R2,K2,vr2,F2⟩:=z
   obtain⟨rfl,as,xs,e1,e2,e3,e4,e5,e6⟩:=@of_decide_eq_true _ (Classical.propDecidable _) q2
   obtain rfl:v=.none:=vr2
   have K:Kp NX γ s.heap γ2 s2.heap:=K1.trans K2
   have ob:=R2.obj n
   rw [e2] at ob
   obtain⟨b,d,m,cd',hcd',_,_,o1,g,nsd,fr2⟩:=ob
   have h0:γ2.own (s.heap.objs.size + 1)=.obj n 0:=(K2.own _ (R1.bnd _ (by rw [Gh.inst0];exact Ow.noConfusion))).trans (Gh.inst0 ..)
   obtain rfl:=o1.at0 h0
   have offN:∀ j,j≠n→H2.get j=H.get j:=fun j hj=>by rw [e1 j hj,hH,if_neg hj]
   obtain⟨R3,K3,rf⟩:=refit (S:=fun i=>i=n) (f:=γ2.drop n) (ob:=γ2.obi) (H₃:=H) (n₃:=n) R K R2 (Gh.drop_owns γ2 n) (fun i hi=>Nat.le_of_eq hi.symm) (Nat.le_refl n) (fun i hi=>offN i hi) (fun _ _=>rfl)
    (fun i hi _=>by rw [hi];exact (R.fresh n (Nat.le_refl n)).1) (fun i hi=>by rw [hi,(R.fresh n (Nat.le_refl n)).1];exact fun b p=>Gh.drop_none γ2 n b p)
    (fun i e=>by
     have:=R2.obi i e
     by_cases z:i=n
     ·rw [z,e2] at this;cases this
     ·rw [offN i z] at this;exact this) id (fun i e=>K.obi i e)
   obtain⟨rvs2,v2,m2⟩:=frz_list (h:=s.heap) rf fr2 cd.fields xs e4 fun v hv=>(e6 v hv).elim (fun z=>vr.mem z) (vdfl v)
   refine ⟨rfl,.obj c xs,H,n,_,e3,R3,K3,.obj hcd g (Gh.drop_obj h0) (Gh.drop_obj o1.f2) nsd.ns v2 m2 (fun y v hy=>?_) hk2,F2.hp⟩
   obtain⟨x,u,h1,h2⟩:=fr2.2 y v hy
   exact⟨x,e5 x u h1,h2⟩
  | _=>exact z
end
section
variable{Z:SA}{w:World}{hd:Bool}{X:Addr→Prop}{γ γ' γ₁ γ₂ γ₃:Gh}{h h' h₂:Heap}{s s' s₁ s₂:Shared}{H H':HT}{n n' N:Nat}{A:Around}{env:Env}{l l':FL}{k kx:KV}{ks ks':KS}{sc:List (PS × NameKind)}
theorem glo_at{v:V}{x:PS}{p:Pos}{Q:Value→Shared→Prop}{E:Value→Shared→Prop}(st:(Z.K w.params).In s.heap)(es:EnvS env)(ec:EnvSc env sc)(hk:sc.lookup x=some .globalImplicit)(e:gloOk Z w x v=true)(hd:(x == ("__debug__" : PS))=false)(q:∀ rv,gvOk Z v rv=true→Q rv s) :
  wpAny (model prog w) A (eval (.Name x p) env) Q E s:=by
 unfold gloOk at e
 obtain⟨rv,e1,e2⟩:∃ rv,globIn (Z.K w.params) x=some rv∧gvOk Z v rv=true:=by
  cases g:globIn (Z.K w.params) x with
  | none=>rw [g] at e;cases e
  | some rv=>rw [g] at e;exact⟨rv,rfl,e⟩
 exact wpAny_Name (loadName_global es.kind (ec _ _ hk (by intro z;cases z)) (loadGlobal_ok st e1 es.glob es.blt (q rv e2))) hd
theorem nm01:nmS 0≠nmS 1:=by decide +kernel
theorem sE_dictS{a b:V}{x y c0 c1:PS}{i j:Nat}{p p1 p2 px py:Pos}(h0:nmS 0=c0)(h1:nmS 1=c1)(hx:sc.lookup x=some .globalImplicit)(hy:sc.lookup y=some .globalImplicit)(ex:gloOk Z w x a=true)(ey:gloOk Z w y b=true)(dx:(x == ("__debug__" : PS))=false)(dy:(y == ("__debug__" : PS))=false) :
  SndE Z w sc (eDictS (Xg a) (Xg b)) (.Dict [some (.Constant (.str c0) i p1),some (.Constant (.str c1) j p2)] [.Name x px,.Name y py] p):=sndE fun N hd A env l H n k kx γ s P q=>by
 subst h0 h1
 obtain⟨H',q,hH⟩:=newO_spec (o:=.sdic a b) q
 have st:(Z.K w.params).In (s.heap.push { cls:=.type "dict",data:=.dict #[] }):=fun a o e=>Heap.get?_push_of_some _ (P.r.st a o e)
 refine wpAny_Dict_walk (knd:=strKind prog w) rfl rfl (by simp) (by simp) ?_
 refine pairTrees_cons_walk (wpAny_mkText ?_)
 refine glo_at st P.es P.ec hx ex dx fun rx gx=>?_
 refine pairTrees_cons_walk (wpAny_mkText ?_)
 refine glo_at st P.es P.ec hy ey dy fun ry gy=>?_
 refine pairTrees_nil_walk ⟨[(nmS 0,rx),(nmS 1,ry)],⟨?_,rfl,?_,rfl,trivial⟩,Heap.DictOf.new _,fun h' hD hS=>?_⟩
 ·exact beq_self_eq_true _
 ·exact beq_self_eq_true _
 ·have keep:∀ b o,s.heap.get? b=some o→h'.get? b=some o:=fun b o e=>by
   rw [hS.2 b (Nat.ne_of_lt (Heap.lt_size e))];exact Heap.get?_push_of_some _ e
  have hz:h'.objs.size=s.heap.objs.size + 1:=hS.1.trans (Heap.size_push ..)
  have hm:merged ([]:List (PS × Value)) [(nmS 0,rx),(nmS 1,ry)]=[(nmS 0,rx),(nmS 1,ry)]:=by
   simp [merged,stored,nm01]
  rw [hm] at hD
  obtain⟨R2,K2⟩:=P.r.newAt (t:=s.toks + 1 + 1 + 2) hH keep (by rw [hz];exact Nat.lt_succ_self _) (by omega) fun K o=>⟨_,rx,ry,o,hD,(gv_ok P.r gx).mono K P.r.bnd,(gv_ok P.r gy).mono K P.r.bnd⟩
  exact⟨_,H',n + 1,_,q,R2,K2,.ref (Gh.take_self ..),rfl,rfl,rfl⟩
end
section
variable{Z:SA}{w:World}{hd:Bool}{X:Addr→Prop}{γ γ' γ₁ γ₂ γ₃:Gh}{h h' h₂:Heap}{s s' s₁ s₂:Shared}{H H':HT}{n n' N:Nat}{A:Around}{env:Env}{l l':FL}{k kx:KV}{ks ks':KS}{sc:List (PS × NameKind)}
theorem asgG_true{r:RR}{l:FL}{n c f:Nat}{cd:CD}{H:HT}{as:FL}{v:V}{n':Nat}{ks:KS}(hcd:clT.get c=some cd)(hm:memN cd.flds f=true)(hs:l.look 2=some (.ref n))(hH:H.get n=.inst c as)
  (q:as.setK f v (fun fs'=>setO n (.inst c fs') H fun h'=>ks.nx l h' n')=true):Yz (Xl 2) f (Xg v) r l H n' ks=true:=by
 show optK (l.look 2) (fun w=>_)=true
 rw [hs]
 show (match H.get n with | .inst c fs=>optK (clT.get c) fun cd=>@Bool.rec (fun _=>Bool) false (fs.setK f v fun fs'=>setO n (.inst c fs') H fun h'=>ks.nx l h' n') (memN cd.flds f) | _=>false)=true
 rw [hH]
 show optK (clT.get c) (fun cd=>@Bool.rec (fun _=>Bool) false (as.setK f v fun fs'=>setO n (.inst c fs') H fun h'=>ks.nx l h' n') (memN cd.flds f))=true
 rw [hcd]
 show @Bool.rec (fun _=>Bool) false (as.setK f v fun fs'=>setO n (.inst c fs') H fun h'=>ks.nx l h' n') (memN cd.flds f)=true
 rw [hm];exact q
structure ObInit(n:Nat)(H1 H':HT):Prop where
 off:∀ j,j≠n→j≠n + 1→j≠n + 2→H'.get j=H1.get j
 rows:H'.get (n + 1)=.lst 0 [.a (.sym 0),.a (.sym 1)]
 names:H'.get (n + 2)=.sdic (.a (.sym 0)) (.a (.sym 1))
 self:∃ as,H'.get n=.inst 40 as∧as.look nRows=some (.ref (n + 1))∧as.look nNames=some (.ref (n + 2))∧∀ y v,as.look y=some v→y=nRows∨y=nNames
theorem rows_ne_names:nRows≠nNames:=by decide +kernel
theorem ne1{n:Nat}:n≠n + 1:=Nat.ne_of_lt (Nat.lt_succ_self n)
theorem ne2{n:Nat}:n≠n + 2:=Nat.ne_of_lt (Nat.lt_succ_of_lt (Nat.lt_succ_self n))
theorem mil{n k:Nat}(h:n≤100000)(hk:k≤900000):n + k≤1000000:=Nat.add_le_add h hk
theorem obInit_run{r:RR}{H1:HT}{K0 kx:KV}(hn:n≤100000)(h0:H1.get n=.inst 40 .nil)(q:∀ H',ObInit n H1 H'→K0 (.a .none) H' (n + 3)=true):zipP F190.prms [.ref n] F190.dfl (fun l=>bodyK F190.body r l H1 (n + 1) K0 kx)=true:=by
 show newO (.lst 0 [.a (.sym 0),.a (.sym 1)]) H1 (n + 1) (fun v H n'=>Yz (Xl 2) nRows (Xg v) r (.cons 2 (.ref n) .nil) H n' ⟨fun l H n'=>newO (.sdic (.a (.sym 0)) (.a (.sym 1))) H n' (fun v H n'=>Yz (Xl 2) nNames (Xg v) r l H n' ⟨fun _ H n'=>K0 (.a .none) H n',K0,fun _ _ _=>false,fun e _ h n=>kx e h n⟩),K0,fun _ _ _=>false,fun e _ h n=>kx e h n⟩)=true
 refine HT.setK_true (mil hn (by decide)) fun Ha ha=>?_
 show Yz (Xl 2) nRows (Xg (.ref (n + 1))) r (.cons 2 (.ref n) .nil) Ha (n + 2) _=true
 refine asgG_true (n:=n) (c:=40) (cd:=c40) (as:=.nil) rfl (by decide +kernel) (by rfl) (by rw [ha,if_neg ne1,h0]) (FL.setK_true fun as1 h1=>HT.setK_true (mil (k:=0) hn (by decide)) fun Hb hb=>?_)
 refine HT.setK_true (mil hn (by decide)) fun Hc hc=>?_
 show Yz (Xl 2) nNames (Xg (.ref (n + 2))) r (.cons 2 (.ref n) .nil) Hc (n + 3) _=true
 refine asgG_true (n:=n) (c:=40) (cd:=c40) (as:=as1) rfl (by decide +kernel) (by rfl) (by rw [hc,if_neg ne2,hb,if_pos rfl]) (FL.setK_true fun as2 h2=>HT.setK_true (mil (k:=0) hn (by decide)) fun Hd hd=>?_)
 refine q Hd ⟨fun j e1 e2 e3=>by rw [hd,if_neg e1,hc,if_neg e3,hb,if_neg e1,ha,if_neg e2],by rw [hd,if_neg ne1.symm,hc,if_neg ne1,hb,if_neg ne1.symm,ha,if_pos rfl],by rw [hd,if_neg ne2.symm,hc,if_pos rfl],as2,by rw [hd,if_pos rfl],?_,?_,fun y v e=>?_⟩
 ·rw [h2,if_neg rows_ne_names,h1,if_pos rfl]
 ·rw [h2,if_pos rfl]
 ·rw [h2,h1] at e
  by_cases e1:y=nNames
  ·exact .inr e1
  ·by_cases e2:y=nRows
   ·exact .inl e2
   ·rw [if_neg e1,if_neg e2] at e;cases e
noncomputable def Gh.obs(γ₂:Gh)(n:Nat)(b:Addr):Ow:=match γ₂.own b with
 | .obj i p=>if i=n + 1 then .obj n 2 else if i=n + 2 then .obj n 3 else .obj i p
 | o=>o
theorem Gh.obs_owns(γ₂:Gh)(n:Nat):Owns (fun i=>i=n∨i=n + 1∨i=n + 2) γ₂ (γ₂.obs n):=by
 refine ⟨fun b hb=>?_,fun b i p hi e=>?_⟩
 ·unfold Gh.obs
  cases e:γ₂.own b with
  | obj i p =>
   show (if i=n + 1 then Ow.obj n 2 else if i=n + 2 then .obj n 3 else .obj i p)=_
   rw [if_neg fun z=>hb i p (.inr (.inl z)) e,if_neg fun z=>hb i p (.inr (.inr z)) e]
  | _=>rfl
 ·right
  unfold Gh.obs
  rw [e]
  show ∃ j q,(if i=n + 1 then Ow.obj n 2 else if i=n + 2 then .obj n 3 else .obj i p)=.obj j q∧_
  by_cases e1:i=n + 1
  ·rw [if_pos e1];exact⟨_,_,rfl,.inl rfl⟩
  ·by_cases e2:i=n + 2
   ·rw [if_neg e1,if_pos e2];exact⟨_,_,rfl,.inl rfl⟩
   ·rw [if_neg e1,if_neg e2];exact⟨_,_,rfl,hi⟩
theorem Gh.obs_1{b:Addr}{p:Nat}(e:γ₂.own b=.obj (n + 1) p):γ₂.obs n b=.obj n 2:=by
 unfold Gh.obs;rw [e];exact if_pos rfl
theorem Gh.obs_2{b:Addr}{p:Nat}(e:γ₂.own b=.obj (n + 2) p):γ₂.obs n b=.obj n 3:=by
 unfold Gh.obs;rw [e]
 show (if n + 2=n + 1 then Ow.obj n 2 else if n + 2=n + 2 then .obj n 3 else .obj (n + 2) p)=_
 rw [if_neg ne1.symm,if_pos rfl]
theorem Gh.obs_0{b:Addr}{i p:Nat}(e:γ₂.own b=.obj i p)(h1:i≠n + 1)(h2:i≠n + 2):γ₂.obs n b=.obj i p:=by
 unfold Gh.obs;rw [e]
 show (if i=n + 1 then Ow.obj n 2 else if i=n + 2 then .obj n 3 else .obj i p)=_
 rw [if_neg h1,if_neg h2]
theorem Gh.obs_inv{b:Addr}{i p:Nat}(e:γ₂.obs n b=.obj i p):(i≠n + 1∧i≠n + 2∧γ₂.own b=.obj i p)∨(i=n∧p=2∧∃ q,γ₂.own b=.obj (n + 1) q)∨(i=n∧p=3∧∃ q,γ₂.own b=.obj (n + 2) q):=by
 unfold Gh.obs at e
 cases g:γ₂.own b with
 | obj j q =>
  rw [g] at e
  have e:(if j=n + 1 then Ow.obj n 2 else if j=n + 2 then .obj n 3 else .obj j q)=.obj i p:=e
  by_cases e1:j=n + 1
  ·rw [if_pos e1] at e;cases e;exact .inr (.inl ⟨rfl,rfl,q,by rw [e1]⟩)
  ·by_cases e2:j=n + 2
   ·rw [if_neg e1,if_pos e2] at e;cases e;exact .inr (.inr ⟨rfl,rfl,q,by rw [e2]⟩)
   ·rw [if_neg e1,if_neg e2] at e;cases e;exact .inl ⟨e1,e2,rfl⟩
 | _=>rw [g] at e;cases e
set_option tactic.hygienic true in
theorem noObar_spec:∀ {n:Nat},noObar H n=true→∀ i,i < n→H.get i≠.obar
 | 0,_,i,hi=>absurd hi (Nat.not_lt_zero _)
 | n + 1,q,i,hi=>by
  have q:(match H.get n with | .obar=>false | _=>noObar H n)=true:=q
  split at q
  ·cases q
  ·rename_i hne
   rcases Nat.lt_succ_iff_lt_or_eq.mp hi with h | h
   ·exact noObar_spec q i h
   ·rw [h];exact hne
noncomputable def ObOk:Prop:=∀ c cd i,clT.get c=some cd→cd.kind=3→assoc cd.mths nInit=some i→c=40∧i=190
theorem new3_ok(T:TabOk Z w)(O3:ObOk){c i:Nat}{cd:CD}(C:SndC Z w N)(a:AOk (N + 1) A)(hh:HdOk A hd γ s.heap){env₀:Env}(fr:FrOk A γ s.heap env₀)(R:Rel Z w γ H n s)(hcd:clT.get c=some cd)(hk:cd.kind=3)(hi:assoc cd.mths nInit=some i)
  (q1:noObar H n=true) (hn:n≤100000) (q:newO .obar H n k=true):codeAny (model prog w) A (.call (.ref (Z.clA c)) ⟨[],[]⟩) (CallR Z w γ s k kx) s:=by
 have hk2:cd.kind≠2:=by rw [hk];decide
 obtain⟨rfl,rfl⟩:=O3 c cd i hcd hk hi
 obtain⟨H3,q,hH3⟩:=newO_spec q
 obtain⟨H1,_,hH⟩:=HT.setK_spec (HT.setK_true (o:=.inst 40 .nil) (t:=H) (i:=n) (k:=fun _=>true) (mil (k:=0) hn (by decide)) fun _ _=>rfl)
 have nob:∀ i,H.get i≠.obar:=fun i=>by
  rcases Nat.lt_or_ge i n with h | h
  ·exact noObar_spec q1 i h
  ·rw [(R.fresh i h).1];exact O.noConfusion
 let K0:KV:=fun v H' n'=>@decide (v=.a .none∧ObInit n H1 H') (Classical.propDecidable _)
 have q':zipP F190.prms [.ref n] F190.dfl (fun l=>bodyK F190.body (mk fnT FDeed N hd) l H1 (n + 1) K0 (fun _ _ _=>false))=true :=
  obInit_run hn (by rw [hH,if_pos rfl]) fun H' o=>@decide_eq_true _ (Classical.propDecidable _) ⟨rfl,o⟩
 have J:=T.fn 190 F190 rfl
 refine new_run T a hh fr R hcd hk2 hi hH fun A' ⟨a1,a2,hh1,fr1,R1,K1⟩=>?_
 refine codeAny_mono (call_fn (env₀:=env₀) J C a1 a2 hh1 fr1 R1 (.cons (.ref (Gh.inst0 ..)) .nil) q') fun r s2 z=>?_
 cases r with
 | error e=>obtain⟨_,_,_,_,q2,_⟩:=z;cases q2
 | ok f=>cases f with
  | ret v =>
   obtain⟨u,H2,n2,γ2,q2,R2,K2,vr2,F2⟩:=z
   obtain⟨rfl,o⟩:=@of_decide_eq_true _ (Classical.propDecidable _) q2
   obtain rfl:v=.none:=vr2
   have K:Kp NX γ s.heap γ2 s2.heap:=K1.trans K2
   obtain⟨as,e0,er,en,eo⟩:=o.self
   have ob:=R2.obj n
   rw [e0] at ob
   obtain⟨b,d,m,cd',hcd',_,_,o1,g,nsd,fr2⟩:=ob
   have ob1:=R2.obj (n + 1)
   rw [o.rows] at ob1
   obtain⟨lr,pre,ws,cap,or1,gr,pr,vr,_,_⟩:=ob1
   have ob2:=R2.obj (n + 2)
   rw [o.names] at ob2
   obtain⟨ld,v1,v2,od1,gd,x1,x2⟩:=ob2
   have pre0:pre=[]:=by unfold PreR at pr;rw [if_pos rfl] at pr;exact pr
   subst pre0
   have h0:γ2.own (s.heap.objs.size + 1)=.obj n 0:=(K2.own _ (R1.bnd _ (by rw [Gh.inst0];exact Ow.noConfusion))).trans (Gh.inst0 ..)
   obtain rfl:=o1.at0 h0
   have offN:∀ j,j≠n→j≠n + 1→j≠n + 2→H2.get j=H.get j:=fun j e1 e2 e3=>by rw [o.off j e1 e2 e3,hH,if_neg e1]
   have nob2:γ2.obi=none:=by
    cases g2:γ2.obi with
    | none=>rfl
    | some i =>
     have:=R2.obi i g2
     by_cases e1:i=n
     ·rw [e1,e0] at this;cases this
     ·by_cases e2:i=n + 1
      ·rw [e2,o.rows] at this;cases this
      ·by_cases e3:i=n + 2
       ·rw [e3,o.names] at this;cases this
       ·rw [offN i e1 e2 e3] at this;exact absurd this (nob i)
   have only:=R2.sym0 nob2
   obtain⟨sn,sn0⟩:=R2.sym.nil
   obtain⟨st,st0⟩:=R2.sym.tee
   obtain⟨rvr,mr,vrr⟩:=fr2.1 _ _ er
   obtain⟨rvn,mn,vrn⟩:=fr2.1 _ _ en
   obtain⟨lr',rfl,olr⟩:=vrr.ref_inv
   obtain⟨ld',rfl,old⟩:=vrn.ref_inv
   obtain rfl:lr'=lr:=or1.2 _ _ olr
   obtain rfl:ld'=ld:=od1.2 _ _ old
   obtain⟨a1,rfl,x1⟩:=x1
   obtain⟨a2,rfl,x2⟩:=x2
   obtain⟨R3,K3,rf⟩:=refit (S:=fun i=>i=n∨i=n + 1∨i=n + 2) (f:=γ2.obs n) (ob:=some n) (H₃:=H3) (n₃:=n + 1) R K R2 (Gh.obs_owns γ2 n) (fun i hi=>hi.elim (fun z=>z ▸ Nat.le_refl _) fun z=>z.elim (fun z=>z ▸ Nat.le_succ _) fun z=>z ▸ Nat.le_add_right _ _) (Nat.le_succ n) (fun i hi=>offN i (fun z=>hi (.inl z)) (fun z=>hi (.inr (.inl z))) (fun z=>hi (.inr (.inr z)))) (fun i hi=>by rw [hH3,if_neg (fun z=>hi (.inl z))])
    (fun i hi hi2=>by rw [hH3,if_neg (Nat.ne_of_gt hi2)];exact (R.fresh i (Nat.le_of_succ_le hi2)).1)
    (fun i hi=>by
     rcases hi with rfl | hi
     ·rw [hH3,if_pos rfl]
      refine ⟨s.heap.objs.size + 1,d,lr',ld',m,_,cap,_,⟨Gh.obs_0 o1.1 ne1 ne2,Gh.obs_0 o1.f2 ne1 ne2,Gh.obs_1 or1.1,Gh.obs_2 od1.1,fun b p e=>?_⟩,rfl,g,nsd,mr,mn,fun y v e=>?_,gr,gd,?_,?_,fun p hp=>?_,fun t b e=>?_⟩
      ·rcases Gh.obs_inv e with ⟨_,_,e⟩ | ⟨_,_,_,e⟩ | ⟨_,_,_,e⟩
       ·exact (o1.f3 _ _ e).imp id .inl
       ·exact .inr (.inr (.inl (or1.2 _ _ e)))
       ·exact .inr (.inr (.inr (od1.2 _ _ e)))
      ·obtain⟨x,v,h1,h2⟩:=fr2.2 y v e
       exact (eo x v h1).imp (fun z=>by rw [← h2,z]) (fun z=>by rw [← h2,z])
      ·have:=vr.len
       simp only [List.nil_append,List.size_toArray,List.length_cons,List.length_nil] at this ⊢
       exact this.symm
      ·simp [nm01]
      ·rcases List.mem_cons.mp hp with rfl | hp
       ·exact⟨0,a1,x1,rfl⟩
       ·rcases List.mem_cons.mp hp with rfl | hp
        ·exact⟨1,a2,x2,rfl⟩
        ·cases hp
      ·have hz:(([]:List Value) ++ ws).toArray.size=2:=by
        have:=vr.len
        simp only [List.nil_append,List.size_toArray,List.length_cons,List.length_nil] at this ⊢
        exact this.symm
       have e:γ2.sg t=some b:=e
       rcases only t b e with rfl | rfl
       ·obtain rfl:a1=b:=Option.some.inj (x1.symm.trans e)
        refine ⟨.head _,?_⟩
        show γ2.nu 0 < _
        rw [sn0,hz];decide
       ·obtain rfl:a2=b:=Option.some.inj (x2.symm.trans e)
        refine ⟨.tail _ (.head _),?_⟩
        show γ2.nu 1 < _
        rw [st0,hz];decide
     ·have hlt:n < i:=hi.elim (fun z=>z ▸ Nat.lt_succ_self n) fun z=>z ▸ Nat.lt_succ_of_lt (Nat.lt_succ_self n)
      rw [hH3,if_neg (Nat.ne_of_gt hlt),(R.fresh i (Nat.le_of_lt hlt)).1]
      intro b p e
      rcases Gh.obs_inv e with ⟨z1,z2,_⟩ | ⟨z,_⟩ | ⟨z,_⟩
      ·exact hi.elim z1 z2
      ·exact Nat.ne_of_gt hlt z
      ·exact Nat.ne_of_gt hlt z)
    (fun i e=>by cases e;rw [hH3,if_pos rfl]) (fun e=>by cases e) (fun i e=>absurd (R.obi i e) (nob i))
   refine ⟨rfl,.ref n,H3,n + 1,_,q,R3,K3,.ref (Gh.obs_0 h0 ne1 ne2),F2.hp⟩
  | _=>exact z
end
section
variable{Z:SA}{w:World}{hd:Bool}{X:Addr→Prop}{γ γ' γ₁ γ₂ γ₃:Gh}{h h' h₂:Heap}{s s' s₁ s₂:Shared}{H H':HT}{n n' N:Nat}{A:Around}{env:Env}{l l':FL}{k kx:KV}{ks ks':KS}{sc:List (PS × NameKind)}
noncomputable def CloOk(Z:SA)(w:World):Prop:=∀ l a la,Z.clo l a la→∃ o fdat body c oc cc occ vs t,(a,o)∈l∧o.data=.func fdat∧fdat.body=.stmts body∧fdat.scope.isCoroutine=false∧fdat.scope.isGenerator=false∧fdat.scope.kind=.function∧fdat.globals=mainGlobals∧fdat.builtins=builtinsNs ∧
 fdat.closure=[(nmS FDeed.name,c)]∧(c,oc)∈l∧oc.data=.cell (some (.ref la))∧fdat.code=.ref cc∧(cc,occ)∈l∧occ.data=.fields vs∧vs[1]?=some (.str fdat.qualname t)∧PlainP fdat (FDeed.prms.map nmS)∧fdat.defaults=.none ∧
 (∀ x∈FDeed.prms,fdat.scope.names.lookup (nmS x)=some .local∨fdat.scope.names.lookup (nmS x)=some .cell)∧(nmS FDeed.name,NameKind.cell)∉fdat.scope.names∧fdat.scope.names.lookup (nmS FDeed.name)=some .free∧SndS Z w fdat.scope.names FDeed.body body
theorem call_clo(CO:CloOk Z w){lo:List (Addr × Obj)}{a la:Addr}{i:Nat}{vs:VL}{rvs:List Value}(C:SndC Z w N)(a1:A.depth + 1 + 3 * N≤690)(a2:A.units + 3 + 12 * N≤5000)(hh:HdOk A hd γ s.heap){env₀:Env}(fr:FrOk A γ s.heap env₀)(R:Rel Z w γ H n s)(vr:VRs Z γ s.heap vs rvs)
  (c1:Z.clo lo a la) (c2:∀ p∈lo,s.heap.get? p.1=some p.2∧γ.own p.1=.free) (c3:γ.own la=.obj i 0)
  (q:zipP FDeed.prms vs [] (fun l=>bodyK FDeed.body (mk fnT FDeed N hd) (.cons FDeed.name (.ref i) l) H n k kx)=true):codeAny (model prog w) A (.call (.ref a) ⟨rvs,[]⟩) (CallR Z w γ s k kx) s:=by
 obtain⟨o,fdat,body,c,oc,cc,occ,cvs,t,m1,e2,e3,e4,e5,e6,e7,e8,e9,m2,e10,e11,m3,e12,e13,pp,dn,pl,nc,fl,y⟩:=CO lo a la c1
 have nd:=nodup_of_map pp.nd
 have lt:∀ x∈FDeed.prms,x < names.length:=by decide +kernel
 have ltn:FDeed.name < names.length:=by decide +kernel
 have nin:FDeed.name∉FDeed.prms:=by decide +kernel
 obtain⟨len,l,q,B,hl⟩:=zipP_none FDeed.prms vs rvs _ nd lt vr q
 refine call_any (l0:=.cons FDeed.name (.ref i) .nil) (lx:=.cons FDeed.name (.ref i) l) C a1 a2 hh fr R (c2 _ m1).1 e2 e3 e4 e5 e6 e7 e8 ⟨cc,occ,cvs,t,e11,(c2 _ m3).1,e12,e13⟩ (.of_eq (bind_plain pp dn (by rw [List.length_map,← len,vr.len]))) (fun p hp=>?_) B ?_ (fun x v e=>?_) (fun x v e=>?_) y q
 ·obtain⟨x,hx,he⟩:=List.mem_map.mp (mem_zip_fst hp)
  rw [← he];exact pl x hx
 ·rw [e9]
  refine ⟨fun p hp=>?_,List.pairwise_singleton _ _,fun p hp=>?_⟩
  ·obtain rfl:=List.mem_singleton.mp hp
   exact⟨oc,_,(c2 _ m2).1,e10,(c2 _ m2).2⟩
  ·obtain rfl:=List.mem_singleton.mp hp
   exact nc
 ·rw [FL.look_cons] at e
  by_cases g:FDeed.name=x
  ·rw [if_pos g] at e;cases e;subst g
   refine ⟨ltn,fl,c,oc,.ref la,?_,?_,(c2 _ m2).1,e10,.ref c3⟩
   ·rw [e9];exact .head _
   ·rw [e9];simp
  ·rw [if_neg g] at e;cases e
 ·rw [FL.look_cons] at e
  by_cases g:FDeed.name=x
  ·rw [if_pos g] at e;cases e;subst g
   cases q2:l.look FDeed.name with
   | none=>rfl
   | some z=>exact absurd (hl _ z q2) nin
  ·rw [if_neg g] at e;rw [e];rfl
structure AllOk(Z:SA)(w:World):Prop extends TabOk Z w where
 frz:FrzOk
 ob3:ObOk
 clo3:CloOk Z w
theorem sndC_succ(T:AllOk Z w)(C:SndC Z w N):SndC Z w (N + 1):=by
 intro hd A env f vs H n k kx γ s rf rvs a hh fr R vf vr q
 have ad:=a.depth
 have au:=a.units
 have a1:A.depth + 1 + 3 * N≤690:=by omega
 have a2:A.units + 3 + 12 * N≤5000:=by omega
 have q:callK fnT FDeed (mk fnT FDeed N hd) f vs H n k kx=true:=q
 cases f with
 | a c=>cases c with
  | fn i =>
   obtain rfl:rf=.ref (Z.fnA i):=vf
   exact wpAny_call (fnK_ok T.toTabOk C a1 a2 hh fr R vr q)
  | clo i =>
   obtain⟨_,_,_,rfl,c1,c2,c3⟩:=vf
   exact wpAny_call (call_clo T.clo3 C a1 a2 hh fr R vr c1 c2 c3 q)
  | blt b =>
   obtain rfl:rf=bltV b:=vf
   exact bltK_ok T.toKC hh R q vr
  | cls c =>
   obtain rfl:rf=.ref (Z.clA c):=vf
   obtain⟨cd,hc,q⟩:=optK_some (o:=clT.get c) q
   obtain⟨i,hi,q⟩:=optK_some q
   refine wpAny_call ?_
   rcases brec q with ⟨_,q⟩ | ⟨hk,q⟩
   ·rcases brec q with ⟨_,q⟩ | ⟨hk,q⟩
    ·obtain⟨hk,q⟩:=brecT q
     cases vs with
     | nil =>
      obtain rfl:=vr.nilI
      obtain⟨g,q⟩:=brecT q
      obtain⟨g2,q⟩:=brecT q
      exact new3_ok T.toTabOk T.ob3 C a hh fr R hc (beqT hk) hi g (Nat.le_of_ble_eq_true g2) q
     | cons _ _=>exact ff q
    ·exact new1_ok T.toTabOk T.frz C a hh fr R vr hc (beqT hk) hi q
   ·exact new0_ok T.toTabOk C a hh fr R vr hc (by rw [beqT hk];decide) hi q
  | _=>exact ff q
 | met v i =>
  obtain⟨_,_,rfl,g,f,v0⟩:=vf.metI
  exact wpAny_call (method_call g (fnK_ok T.toTabOk C a1 a2 hh fr R (.cons v0 vr) q))
 | _=>exact ff q
theorem sndC(T:AllOk Z w):∀ N,SndC Z w N
 | 0=>by intro hd A env f vs H n k kx γ s rf rvs a hh fr R vf vr q;cases q
 | N + 1=>sndC_succ T (sndC T N)
end
end Mine
end
section
open PySem renaming Expr→PX,Str→PS
open PySem PySem.W PySem.Spec PySem.Calls PyProof.Rows PySem.SeqAt Builtin Builtin.ObjectAttr
namespace Mine
noncomputable abbrev excBm:List Value:=[.type "Exception",.type "BaseException",.type "object"]
section
variable{w:World}{A:Around}{E:Value→Shared→Prop}{h:Heap}{g:Array GenState}{d:Drawn}{t:Nat}{os:OsState}
variable{nm q:PS}{C N:Addr}{bs:List Value}{sn:List PS}{sub:List Value}{ab:Bool}{col:Option Bool}{dd:Option Addr}{k0 k1 k2 k3 k5:Option Value}
theorem exc_make{mN:PS→Option Value}{rest:List Value}{fI:Addr}{oI:Obj}{Q:Value→Shared→Prop}(hC:h.get? C=some (excClassObj nm q C N bs excBm true sn sub ab col dd k0 k1 k2 k3 k5 "Exception.__new__"))(hn:h.Ns N mN)(hi:mN "__init__" = some (.ref fI))(hfI:h.get? fI=some oI)(hfc:oI.cls=.type "function")
  (hq:wpAny (model prog w) (A.under (.builtin "type.__call__" ⟨.ref C :: rest,[]⟩)) (PySem.call (.ref fI) (.ref (h.objs.size + 1) :: rest)) (fun r s'=>r=.none∧Q (.ref (h.objs.size + 1)) s') E ⟨(h.push { cls:=.type "tuple",data:=.seq rest.toArray }).push { cls:=.ref C,data:=.fields #[.ref h.objs.size,.none,.none,.none,.bool false,.none] },g,d,t,os⟩) (hrest:rest.length≤sizeLine) :
  wpAny (model prog w) A (PySem.call (.ref C) rest) Q E ⟨h,g,d,t,os⟩:=by
 have F:=PySem.F.excBase_Exception
 have f1:=tc_lookup
 have f2:=tc_bind (.ref C)
 have hT:(⟨h,g,d,t,os⟩:Shared).TypeIs (.ref C) "type" := ⟨_,hC,rfl⟩
 refine wpAny_call (codeAny_of_tree ?_)
 show wpAny _ _ (callAny (.ref C) _) _ _ _
 repeat (any_goals (first | assumption | with_reducible refine wpAny_loadPart_at hC ?_ | wp_step))
 refine ⟨rfl,?_⟩
 refine codeAny_call_builtin_at (Code.quiet_builtin _ (by decide +kernel)) entry_typeCall (wpAny_check_type_call_sub hC ?_)
 repeat (first | with_reducible refine wpAny_loadPart_at hC ?_ | with_reducible refine wpAny_madeBy_exc hC ?_ | wp_step)
 refine codeAny_call_builtin_code (Code.quiet_builtin _ F.quiet) (wpAny_check_new_sub F hC ?_)
 refine codeAny_exc_new_sub F hC ?_ hrest
 show wpAny _ _ _ _ _ _
 have hC₁:=Heap.get?_push_of_some { cls:=.ref C,data:=.fields #[.ref h.objs.size,.none,.none,.none,.bool false,.none] } (Heap.get?_push_of_some { cls:=.type "tuple",data:=.seq rest.toArray } hC)
 have hfI₁:=Heap.get?_push_of_some { cls:=.ref C,data:=.fields #[.ref h.objs.size,.none,.none,.none,.bool false,.none] } (Heap.get?_push_of_some { cls:=.type "tuple",data:=.seq rest.toArray } hfI)
 have hn₁:((h.push { cls:=.type "tuple",data:=.seq rest.toArray }).push { cls:=.ref C,data:=.fields #[.ref h.objs.size,.none,.none,.none,.bool false,.none] }).Ns N mN:=let ⟨o,es,ep,e,r⟩:=hn;⟨o,es,ep,Heap.get?_push_of_some _ (Heap.get?_push_of_some _ e),r⟩
 have hget:((h.push { cls:=.type "tuple",data:=.seq rest.toArray }).push { cls:=.ref C,data:=.fields #[.ref h.objs.size,.none,.none,.none,.bool false,.none] }).get? (h.objs.size + 1)=some { cls:=.ref C,data:=.fields #[.ref h.objs.size,.none,.none,.none,.bool false,.none] }:=by heap_get
 have hcC:(Value.ref C :: excBm).contains (.ref C)=true:=by simp
 unfold isInstance
 repeat (first | with_reducible refine wpAny_loadPart_at hget ?_ | wp_step)
 refine wpAny_isSubtype_exc hC₁ ?_
 rw [hcC]
 repeat (first | wp_step)
 show wpAny _ _ (typeLookup (.ref C) _) _ _ _
 refine wpAny_typeLookup_exc hC₁ hn₁ F.mroIs F.init.lookup ?_
 rw [hi]
 refine wpAny_holding (wpAny_bind ?_)
 unfold bindSpecial
 refine wpAny_bind (wpAny_typeOf (T:= "function") ⟨_,hfI₁,hfc⟩ ?_)
 rw [if_pos (by decide)]
 refine wpAny_pure (wpAny_bind (wpAny_mono hq (fun r s' hr=>?_) fun _ _ x=>x))
 obtain⟨rfl,hQ⟩:=hr
 wp_walk
 exact hQ
end
section
variable{K:Frag}{w:World}{A:Around}{s:Shared}{x C:Addr}
theorem osa_exc{ox:Obj}{od:Option Obj}{name:PS}{tk:Tok}{v:Value}{cd:ClassData}{R:Result→Shared→Prop}(X:K.In s.heap)(I:InstAt s.heap x ox C od)(hc:clsIn K C=some cd)(hm:cd.mro=.ref C :: excBm)(f5:mroIn K C (.type "object")=some true)(f4:findIn K (.ref C) name=some none)
  (h:∀ b,wpAny (model prog w) A.in1 (storeInOwnDict (.ref x) (.ref C) (.str name tk) name v b)
   (fun fin s'=>match fin with | .done f=>R (.ok f) s' | .again c'=>c'.quiet=true∧codeAny (model prog w) A c' R s') (fun e s'=>R (.error e) s') s) :
  codeAny (model prog w) A (.call (.builtin "object.__setattr__") ⟨[.ref x,.str name tk,v],[]⟩) R s:=by
 have SF:=PySem.F.store_Exception
 have sub:Looks (model prog w) s.heap (isInstance (.ref x) (.type "object")) true:=I.type.andThen (looks_mroIn X f5)
 refine codeAny_call_builtin SF.slot.plain SF.entry (@check_slot (model prog w) _ _ s "object.__setattr__" "object" "__setattr__" (.ref x) [.str name tk,v] [] _ SF.kind SF.split sub (SF.args (.ref x) (.str name tk) v) ?_)
 have hmr:Looks (model prog w) s.heap (mroOf (.ref C)) cd.mro:=(looks_clsIn X hc).andThen .now
 rw [osa_eq,refuse_eq]
 refine wpAny_bind (wpAny_bind (I.type.here (wpAny_bind (hmr.here ?_))))
 rw [hm,refuseLoop_ref,SF.passes]
 refine wpAny_pure (wpAny_bind (I.type.here (wpAny_bind ((looks_findIn X f4).here (wpAny_bind (Looks.here (r:=none) .now ?_))))))
 exact h _
theorem exStore0{name:PS}{a:Array Value}{v:Value}{cd:ClassData}{E:Value→Shared→Prop}{Q:Unit→Shared→Prop}(st:K.In s.heap)(g:s.heap.get? x=some ⟨.ref C,none,.fields a,#[]⟩)(hc:clsIn K C=some cd)(hm:cd.mro=.ref C :: excBm)(hd:cd.hasDict=true)(f5:mroIn K C (.type "object")=some true)
  (f1:findIn K (.ref C) "__setattr__" = some (some (.builtin "object.__setattr__"))) (f4:findIn K (.ref C) name=some none)
  (q:∀ h',h'.get? x=some ⟨.ref C,some s.heap.objs.size,.fields a,#[]⟩→h'.Ns1 s.heap.objs.size (fun y=>if y=name then some v else none)→(∀ b o,b≠x→s.heap.get? b=some o→h'.get? b=some o)→h'.objs.size=s.heap.objs.size + 1→Q () { s with heap:=h',toks:=s.toks + 2 }) :
  wpAny (model prog w) A (setAttr (.ref x) name v) Q E s:=by
 obtain⟨hp,gg,d,tk,os⟩:=s
 dsimp only at st g q
 have I:InstAt hp x ⟨.ref C,none,.fields a,#[]⟩ C none:=⟨g,rfl,rfl,trivial⟩
 refine set_plain st I f1 ?_
 refine osa_exc st I hc hm f5 f4 fun b=>?_
 have L1:=looks_clsIn (M:=model prog w) (h:=hp) st hc
 refine wpAny_bind (wpAny_pure (wpAny_bind (wpAny_bind (wpAny_loadPart g (wpAny_bind (L1.at ?_))))))
 rw [hd]
 have g1:(hp.push { cls:=.type "dict",data:=.dict #[] }).get? x=some ⟨.ref C,none,.fields a,#[]⟩:=Heap.get?_push_of_some _ g
 have ne:x≠hp.objs.size:=Nat.ne_of_lt (Heap.lt_size g)
 refine wpAny_bind (wpAny_alloc' ?_)
 refine wpAny_bind (wpAny_update' g1 ?_)
 refine wpAny_pure (a:=some hp.objs.size) (wpAny_bind (wpAny_pure (wpAny_bind ?_)))
 have hgd:((hp.push { cls:=.type "dict",data:=.dict #[] }).update x fun o=>{ o with dict:=some hp.objs.size }).get? hp.objs.size=some { cls:=.type "dict",data:=.dict #[] } :=
  (Heap.get?_update_ne _ _ _ _ ne.symm).trans (Heap.get?_push_at rfl rfl)
 have hnd:((hp.push { cls:=.type "dict",data:=.dict #[] }).update x fun o=>{ o with dict:=some hp.objs.size }).Ns hp.objs.size (fun _=>none) :=
  ⟨_,#[],_,hgd,rfl,fun e he=>absurd he (by simp),fun _=>rfl⟩
 refine wpAny_nsSet1 (Heap.Ns1.of_empty hnd) fun h' hn' hs=>?_
 obtain⟨oD,esD,epD,hoD,hdD,hcD⟩:=hn'.count (Within.cons name v Within.nil)
 refine wpAny_bind (wpAny_lookBehind hoD (by rw [hdD];exact pastItsLine_dict (Nat.le_trans hcD (by rw [List.length_cons,List.length_nil,sizeLine_eq];omega))) ?_)
 refine wpAny_pure (q h' ?_ hn' (fun b o hb e=>?_) ?_)
 ·exact (hs.2 x ne).trans (Heap.get?_update_self _ g1 rfl)
 ·exact (hs.2 b (Nat.ne_of_lt (Heap.lt_size e))).trans ((Heap.get?_update_ne _ _ _ _ hb).trans (Heap.get?_push_of_some _ e))
 ·rw [hs.1,Heap.size_update,Heap.size_push]
theorem exStore1{name n0:PS}{a:Array Value}{v v0:Value}{dx:Addr}{cd:ClassData}{E:Value→Shared→Prop}{Q:Unit→Shared→Prop}(st:K.In s.heap)(g:s.heap.get? x=some ⟨.ref C,some dx,.fields a,#[]⟩)(hn:s.heap.Ns1 dx (fun y=>if y=n0 then some v0 else none))(hc:clsIn K C=some cd)(hm:cd.mro=.ref C :: excBm)(hd:cd.hasDict=true)(f5:mroIn K C (.type "object")=some true)
  (f1:findIn K (.ref C) "__setattr__" = some (some (.builtin "object.__setattr__"))) (f4:findIn K (.ref C) name=some none)
  (q:∀ h',h'.Ns1 dx (fun y=>if y=name then some v else if y=n0 then some v0 else none)→Heap.SameBut dx s.heap h'→Q () { s with heap:=h',toks:=s.toks + 2 }) :
  wpAny (model prog w) A (setAttr (.ref x) name v) Q E s:=by
 obtain⟨hp,gg,d,tk,os⟩:=s
 dsimp only at st g q hn
 obtain⟨od,eso,epo,ho,rest⟩:=hn
 have I:InstAt hp x ⟨.ref C,some dx,.fields a,#[]⟩ C (some od):=⟨g,rfl,rfl,ho⟩
 have hn:hp.Ns1 dx _:=⟨od,eso,epo,ho,rest⟩
 refine set_plain st I f1 ?_
 refine osa_exc st I hc hm f5 f4 fun b=>?_
 have L1:=looks_clsIn (M:=model prog w) (h:=hp) st hc
 refine wpAny_bind (wpAny_pure (wpAny_bind (wpAny_bind (wpAny_loadPart g (wpAny_bind (L1.at ?_))))))
 rw [hd]
 refine wpAny_pure (a:=some dx) (wpAny_bind (wpAny_pure (wpAny_bind (wpAny_nsSet1 hn fun h' hn' hs=>?_))))
 obtain⟨oD,esD,epD,hoD,hdD,hcD⟩:=hn'.count (Within.cons name v (Within.cons n0 v0 Within.nil))
 refine wpAny_bind (wpAny_lookBehind hoD (by rw [hdD];exact pastItsLine_dict (Nat.le_trans hcD (by rw [List.length_cons,List.length_cons,List.length_nil,sizeLine_eq];omega))) ?_)
 exact wpAny_pure (q h' hn' hs)
end
inductive ExcK(Z:SA)(K:Frag)(c x1 x2:Nat):Prop
 | mk:∀ nm q N bs sn sub ab col dd k0 k1 k2 k3 k5 od es ep i oI fdat cd p1 p2 p3 p4 p5 p6 p7 p8,
 K.lookup (Z.clA c)=some (excClassObj nm q (Z.clA c) N bs excBm true sn sub ab col dd k0 k1 k2 k3 k5 "Exception.__new__")→K.lookup N=some od→od.data=.dict es ep→StrKeys es→nsFind es "__init__" = some (.ref i)→K.lookup i=some oI→oI.cls=.type "function" → oI.data=.func fdat→fdat.body=.stmts [.Assign [.Attribute (.Name (nmS 2) p1) (nmS x1) p2] (.Name (nmS x1) p3) p4,.Assign [.Attribute (.Name (nmS 2) p5) (nmS x2) p6] (.Name (nmS x2) p7) p8]→fdat.scope.isCoroutine=false→fdat.scope.isGenerator=false→fdat.scope.kind=.function→fdat.globals=mainGlobals→fdat.builtins=builtinsNs→fdat.closure=[]→codeIn K fdat.code fdat.qualname=true→PlainP fdat [nmS 2,nmS x1,nmS x2]→fdat.defaults=.none→(∀ x∈fdat.scope.names,x.2≠.cell)→fdat.scope.names.lookup (nmS 2)=some .local→fdat.scope.names.lookup (nmS x1)=some .local→fdat.scope.names.lookup (nmS x2)=some .local→(nmS 2 == ("__debug__" : PS))=false→(nmS x1 == ("__debug__" : PS))=false→(nmS x2 == ("__debug__" : PS))=false→clsIn K (Z.clA c)=some cd→cd.mro=.ref (Z.clA c) :: excBm→cd.hasDict=true→mroIn K (Z.clA c) (.type "object")=some true→findIn K (.ref (Z.clA c)) "__setattr__" = some (some (.builtin "object.__setattr__"))→findIn K (.ref (Z.clA c)) (nmS x1)=some none→findIn K (.ref (Z.clA c)) (nmS x2)=some none→ExcK Z K c x1 x2
theorem mkExc{Z:SA}{w:World}(X:∀ c cd x1 x2,clT.get c=some cd→cd.kind=2→cd.fields=[x1,x2]→ExcK Z (Z.K w.params) c x1 x2):MkExc Z w:=by
 intro c cd0 x1 x2 hc hk hf A s Q E r1 r2 hdep hun st lim q
 obtain⟨nm,qn,N,bs,sn,sub,ab,col,dd,k0,k1,k2,k3,k5,od,es,ep,i,oI,fdat,cd,p1,p2,p3,p4,p5,p6,p7,p8,e1,e2,e3,e4,e5,e6,e7,e8,hbody,hco,hge,hfk,hgl,hbl,hcl,hcode,pp,hdf,hcell,l0,l1,l2,d0,d1,d2,hcd,hmro,hhd,hobj,hset,hf1,hf2⟩:=X c cd0 x1 x2 hc hk hf
 have nd:=pp.nd
 have n01:nmS 2≠nmS x1:=fun z=>by rw [z] at nd;simp at nd
 have n02:nmS 2≠nmS x2:=fun z=>by rw [z] at nd;simp at nd
 have n12:nmS x1≠nmS x2:=fun z=>by rw [z] at nd;simp at nd
 obtain⟨h,g,d,tk,os⟩:=s
 dsimp only at st lim q
 generalize hCdef:Z.clA c=C at *
 refine exc_make (st _ _ e1) ⟨od,es,ep,st _ _ e2,e3,e4,fun _=>rfl⟩ e5 (st _ _ e6) e7 ?_ (by rw [sizeLine_eq];simp)
 have hraw:((h.push { cls:=.type "tuple",data:=.seq [r1,r2].toArray }).push { cls:=.ref C,data:=.fields #[.ref h.objs.size,.none,.none,.none,.bool false,.none] }).get? (h.objs.size + 1)=some ⟨.ref C,none,.fields #[.ref h.objs.size,.none,.none,.none,.bool false,.none],#[]⟩:=by heap_get
 have hz1:((h.push { cls:=.type "tuple",data:=.seq [r1,r2].toArray }).push { cls:=.ref C,data:=.fields #[.ref h.objs.size,.none,.none,.none,.bool false,.none] }).objs.size=h.objs.size + 2:=by rw [Heap.size_push,Heap.size_push]
 have keep1:∀ b o,h.get? b=some o→((h.push { cls:=.type "tuple",data:=.seq [r1,r2].toArray }).push { cls:=.ref C,data:=.fields #[.ref h.objs.size,.none,.none,.none,.bool false,.none] }).get? b=some o:=fun b o e=>Heap.get?_push_of_some _ (Heap.get?_push_of_some _ e)
 generalize ((h.push { cls:=.type "tuple",data:=.seq [r1,r2].toArray }).push { cls:=.ref C,data:=.fields #[.ref h.objs.size,.none,.none,.none,.bool false,.none] })=h1 at hraw hz1 keep1 ⊢
 have st1:(Z.K w.params).In h1:=fun a o e=>keep1 a o (st a o e)
 have lim1:h1.NoLimit:=lim.keeps keep1
 refine wpAny_call ?_
 refine codeAny_call_function (by show A.depth + 1 < recursionLimit;omega) (st1 _ _ e6) e8 hco hge hbody (codeRec_of st1 hcode) (BindsTo.of_eq (bind_plain pp hdf (by simp)) _ _ _ _ ?_)
 rw [hgl,hbl]
 refine wpAny_newFunctionEnv hcell (fun p hp=>?_) (fun h2 ns2 sb2=>?_) hfk
 ·simp only [List.zip_cons_cons,List.zip_nil_right,List.mem_cons,List.not_mem_nil,or_false] at hp
  rcases hp with rfl | rfl | rfl
  ·exact l0
  ·exact l1
  ·exact l2
 have keep2:∀ b o,h1.get? b=some o→h2.get? b=some o:=fun b o e=>(sb2.2 b (Nat.ne_of_lt (Heap.lt_size e))).trans (Heap.get?_push_of_some _ e)
 have hz2:h2.objs.size=h.objs.size + 3:=by rw [sb2.1,Heap.size_push];show h1.objs.size + 1=_;rw [hz1]
 have st2:(Z.K w.params).In h2:=fun a o e=>keep2 a o (st1 a o e)
 have raw2:=keep2 _ _ hraw
 have ns2:h2.Ns h1.objs.size (fun x=>([nmS 2,nmS x1,nmS x2].zip [.ref (h.objs.size + 1),r1,r2]).reverse.lookup x):=ns2
 refine ⟨lim1.keeps keep2,codeAny_func ?_⟩
 generalize henv:newEnv fdat.scope h1.objs.size mainGlobals fdat.closure (fdat.qualname ++ ".<locals>.") (some i) fdat.code none builtinsNs=env
 have ek:env.scope.kind=.function:=by rw [← henv];exact hfk
 have el:env.locals=h1.objs.size:=by rw [← henv];rfl
 have kd:∀ x,env.kindOf x=fdat.scope.names.lookup x:=fun x=>by rw [← henv];rfl
 rw [← el] at ns2
 have m0:([nmS 2,nmS x1,nmS x2].zip [Value.ref (h.objs.size + 1),r1,r2]).reverse.lookup (nmS 2)=some (.ref (h.objs.size + 1)):=by
  simp [List.lookup,beq_eq_false_iff_ne.mpr n01,beq_eq_false_iff_ne.mpr n02]
 have m1:([nmS 2,nmS x1,nmS x2].zip [Value.ref (h.objs.size + 1),r1,r2]).reverse.lookup (nmS x1)=some r1:=by
  simp [List.lookup,beq_eq_false_iff_ne.mpr n12]
 have m2:([nmS 2,nmS x1,nmS x2].zip [Value.ref (h.objs.size + 1),r1,r2]).reverse.lookup (nmS x2)=some r2:=by
  simp [List.lookup]
 have eL:h1.objs.size≠h.objs.size + 1:=by rw [hz1];omega
 refine wpAny_execs_cons ?_
 refine plainObj_wpAny_Assign_Attribute (wpAny_Name (wpAny_loadName_local ek ((kd _).trans l1) ns2 m1 ?_) d1) rfl
 refine wpAny_Name (wpAny_loadName_local ek ((kd _).trans l0) ns2 m0 ?_) d0
 refine exStore0 st2 raw2 hcd hmro hhd hobj hset hf1 fun h3 g3 n3 k3 z3=>?_
 dsimp only
 have keep3:∀ b o,h.get? b=some o→h3.get? b=some o:=fun b o e=>k3 b o (Nat.ne_of_lt (Nat.lt_succ_of_lt (Heap.lt_size e))) (keep2 b o (keep1 b o e))
 have st3:(Z.K w.params).In h3:=fun a o e=>keep3 a o (st a o e)
 have ns3:h3.Ns env.locals (fun x=>([nmS 2,nmS x1,nmS x2].zip [.ref (h.objs.size + 1),r1,r2]).reverse.lookup x):=by
  obtain⟨o,es',ep',go,r⟩:=ns2
  exact⟨o,es',ep',k3 _ _ (by rw [el];exact eL) go,r⟩
 refine wpAny_execs_cons ?_
 refine plainObj_wpAny_Assign_Attribute (wpAny_Name (wpAny_loadName_local ek ((kd _).trans l2) ns3 m2 ?_) d2) rfl
 refine wpAny_Name (wpAny_loadName_local ek ((kd _).trans l0) ns3 m0 ?_) d0
 refine exStore1 st3 g3 n3 hcd hmro hhd hobj hset hf2 fun h4 n4 s4=>?_
 dsimp only
 refine wpAny_execs_nil ⟨rfl,?_⟩
 have sz2:h2.objs.size≠h.objs.size + 1:=by rw [hz2];omega
 refine q h4 _ (h.objs.size + 1) h2.objs.size _ (.ref h.objs.size) (fun b o e=>(s4.2 b (Nat.ne_of_lt (Nat.lt_of_lt_of_le (Heap.lt_size e) (by rw [hz2];omega)))).trans (keep3 b o e)) ?_ (Nat.le_succ _) ?_ sz2 ?_ ((s4.2 _ (Ne.symm sz2)).trans g3) n4.ns ?_ ?_
 ·rw [s4.1,z3];show _≤h2.objs.size + 1;rw [hz2];omega
 ·rw [hz2];omega
 ·show tk≤tk + _ + 2 + 2;omega
 ·show (if nmS x1=nmS x2 then some r2 else if nmS x1=nmS x1 then some r1 else none)=some r1
  rw [if_neg n12,if_pos rfl]
 ·show (if nmS x2=nmS x2 then some r2 else _)=some r2
  rw [if_pos rfl]
end Mine
end
section
open PySem renaming Expr→PX,Str→PS
open PySem PySem.W PySem.Calls PyProof.Rows
namespace Mine
section
noncomputable abbrev Scp:=List (PS × NameKind)
noncomputable abbrev GT:=List (Nat × V)
noncomputable def findN(k:Nat)(l:List Nat):Nat→Option Nat:=@List.rec Nat (fun _=>Nat→Option Nat) (fun _=>none) (fun y _ ih i=>@Bool.rec (fun _=>Option Nat) (ih (Nat.add i 1)) (some i) (Nat.beq y k)) l
noncomputable def idx(x:PS):Option Nat:=(findN (kS x) ((names.map PySem.Str.ofString).map kS) 0).bind fun i=>match nmS i == x && decide (i < names.length) with | true=>some i | false=>none
noncomputable def okNm(x:PS):Bool:=x != "__debug__" && x != "__classdict__"
noncomputable def notCall0:PX→Bool
 | .Call _ [] [] _=>false
 | _=>true
noncomputable def notAttr:PX→Bool
 | .Attribute ..=>false
 | _=>true
noncomputable def notComp:PX→Bool
 | .ListComp .. | .SetComp .. | .DictComp ..=>false
 | _=>true
noncomputable def notSet:PX→Bool
 | .Set ..=>false
 | _=>true
noncomputable def cmpI:CmpOp→Option Nat
 | .Eq=>some 0 | .NotEq=>some 1 | .Lt=>some 2 | .LtE=>some 3 | .Gt=>some 4 | .GtE=>some 5 | .Is=>some 6 | .IsNot=>some 7 | .In=>some 8 | _=>none
noncomputable def opI:Operator→Option Nat
 | .Add=>some 0 | .Sub=>some 1 | .Mod=>some 2 | _=>none
noncomputable section
variable(G:GT)
noncomputable def trEs(t:PX→Option EM):List PX→Option EMs
 | []=>some Xn
 | e :: r=>match plainE e with
  | true=>(t e).bind fun m=>(trEs t r).map fun ms=>Xc m ms
  | false=>none
noncomputable def trB(op:BoolOp)(t:PX→Option EM):List PX→Option EM
 | []=>none
 | [e]=>t e
 | e :: r=>(t e).bind fun m=>(trB op t r).map fun ms=>match op with | .And=>eAnd m ms | .Or=>eOr m ms
noncomputable def trBT(op:BoolOp)(t:PX→Option TM):List PX→Option TM
 | []=>some (match op with | .And=>tTrue | .Or=>tFalse)
 | e :: r=>(t e).bind fun m=>(trBT op t r).map fun ms=>match op with | .And=>tAnd m ms | .Or=>tOr m ms
noncomputable def trT(t:PX→Option EM):Nat→PX→Option TM
 | 0,_=>none
 | f + 1,e=>match e with
  | .UnaryOp .Not e _=>(trT t f e).map tNot
  | .BoolOp op es _=>trBT op (trT t f) es
  | .Compare a [op] [b] _=>(cmpI op).bind fun i=>match behindInMarks op b with
   | false=>(t a).bind fun x=>(t b).map fun y=>tCmp i x y
   | true=>none
  | e=>match asValue e with | true=>(t e).map tE | false=>none
noncomputable def trNms(sc:Scp):List PX→Option (List Nat)
 | []=>some []
 | .Name y _ :: r=>(idx y).bind fun i=>match stores sc i with | true=>(trNms sc r).map fun l=>i :: l | false=>none
 | _=>none
noncomputable def trTg(sc:Scp):PX→Option TGT
 | .Name y _=>(idx y).bind fun i=>match stores sc i with | true=>some (.one i) | false=>none
 | .Tuple es _ _=>(trNms sc es).map .many
 | _=>none
noncomputable def freeI(sc:Scp):List Nat:=sc.filterMap fun p=>match p.2 == .free with | true=>idx p.1 | false=>none
noncomputable def gloV(sc:Scp):PX→Option V
 | .Name x _=>match okNm x && sc.lookup x == some .globalImplicit with | true=>(idx x).bind fun i=>G.lookup i | false=>none
 | _=>none
noncomputable def strK(o:Option PX):Option PS:=match o with | some (.Constant (.str c) _ _)=>some c | _=>none
noncomputable def trDict(sc:Scp)(ks:List (Option PX))(vs:List PX):Option EM:=match ks,vs with
 | [],[]=>some eDict
 | [k0,k1],[v0,v1]=>(strK k0).bind fun c0=>(strK k1).bind fun c1=>match idx c0 == some 0 && idx c1 == some 1 with
  | true=>(gloV G sc v0).bind fun a=>(gloV G sc v1).map fun b=>eDictS (Xg a) (Xg b)
  | false=>none
 | _,_=>none
noncomputable def trE(sc:Scp):Nat→PX→Option EM
 | 0,_=>none
 | f + 1,e=>match e with
  | .Constant c _ _=>match c with
   | .none=>some eNone
   | .bool b=>some (eBool b)
   | .int (.ofNat z)=>some (Xi z)
   | .str x=>(idx x).map eStr
   | _=>none
  | .Name x _=>match okNm x with
   | true=>(idx x).bind fun i=>match sc.lookup x with
    | some .globalImplicit=>(G.lookup i).map Xg
    | _=>some (Xl i)
   | false=>none
  | .Attribute e x _=>match notCall0 e with
   | true=>(trE sc f e).bind fun m=>(idx x).map fun i=>Xt m i
   | false=>none
  | .Call g es [] p=>match notAttr g with
   | true=>(trE sc f g).bind fun m=>(trEs (trE sc f) es).map fun ms=>Xa m ms
   | false=>match g with
    | .Attribute o x ap=>match notCall0 o && decide (es.length < 30) && ap.endLine == p.line with
     | true=>(trE sc f o).bind fun m=>(trEs (trE sc f) es).bind fun ms=>(idx x).map fun i=>Xm m i ms
     | false=>none
    | _=>none
  | .BinOp a op b _=>(opI op).bind fun i=>(trE sc f a).bind fun x=>(trE sc f b).map fun y=>eBin i x y
  | .Compare a [op] [b] _=>(cmpI op).bind fun i=>match behindInMarks op b with
   | false=>(trE sc f a).bind fun x=>(trE sc f b).map fun y=>eCmp i x y
   | true=>none
  | .BoolOp op es _=>trB op (trE sc f) es
  | .UnaryOp .USub e _=>(trE sc f e).map eNeg
  | .IfExp a b c _=>(trT (trE sc f) f a).bind fun x=>(trE sc f b).bind fun y=>(trE sc f c).map fun z=>eIte x y z
  | .List es _=>match decide (es.length≤100) with | true=>(trEs (trE sc f) es).map eList | false=>none
  | .Tuple es _ _=>match decide (es.length≤100) with | true=>(trEs (trE sc f) es).map eTup | false=>none
  | .Subscript e i _=>match notSlice i with
   | true=>(trE sc f e).bind fun m=>(trE sc f i).map fun a=>Xj m a
   | false=>match i with
    | .Slice lo hi none _=>(trE sc f e).bind fun m =>
     (match lo with | none=>some eNone | some x=>trE sc f x).bind fun a=>(match hi with | none=>some eNone | some x=>trE sc f x).map fun b=>eSlc m a b
    | _=>none
  | .Dict ks vs _=>trDict G sc ks vs
  | .ListComp elt [⟨t,it,[],a⟩] cs _=>match notSet it && decide (a=0) with
   | true=>(trTg cs.names t).bind fun tg=>(trE sc f it).bind fun mi=>(trE cs.names f elt).bind fun me=>match compScOk sc cs (freeI cs.names) tg with
    | true=>some (eComp me tg mi (freeI cs.names))
    | false=>none
   | false=>none
  | _=>none
noncomputable def trSL(s:Stmt→Option SM):List Stmt→Option SM
 | []=>some Yn
 | x :: r=>(s x).bind fun m=>(trSL s r).map fun ms=>Yc m ms
noncomputable def asCls{α:Type}(o:Option V)(k:Nat→Option α):Option α:=match o with | some (.a (.cls c))=>k c | _=>none
noncomputable def isBlt(o:Option V)(k:Nat→Bool):Bool:=match o with | some (.a (.blt b))=>k b | _=>false
noncomputable def excI(g:PX)(sc:Scp):Option Nat:=match g with
 | .Name x _=>match okNm x && sc.lookup x == some .globalImplicit with
  | true=>(idx x).bind fun i=>asCls (G.lookup i) fun c=>(clT.get c).bind fun cd=>match cd.kind == 2 && cd.fields.length == 2 with | true=>some c | false=>none
  | false=>none
 | _=>none
noncomputable def trH(sc:Scp)(s:List Stmt→Option SM):List ExceptHandler→Option HM
 | []=>some hNil
 | .ExceptHandler (some t) (some x) b _ :: r=>(excI G t sc).bind fun d=>(idx x).bind fun nm=>match decide (nm < names.length) && sc.lookup (nmS nm) == some .local && !b.isEmpty with
  | true=>(s b).bind fun m=>(trH sc s r).map fun ms=>hCons d nm m ms
  | false=>none
 | _=>none
noncomputable def isStar:PX→Bool
 | .Starred ..=>true
 | _=>false
noncomputable def headLine(ts:List PX):Nat:=(ts.head?.map (·.pos.line)).getD 0
noncomputable def swaps(ex vs:List PX):Bool:=(ex.length == 2 || ex.length == 3) && vs.length == ex.length && (ex.all fun e=>e.pos.line == headLine ex) && !vs.any isStar && !vs.all (foldedForSure 8) && !vs.all (constantsAlone 8)
noncomputable def nodupN:List Nat→Bool
 | []=>true
 | x :: r=>!r.contains x && nodupN r
noncomputable def trAsgT(sc:Scp)(es:List PX)(xs:List Nat)(m:EM):PX→Option SM
 | .Tuple vs _ _=>match swaps es vs && xs.all (localN sc) && decide xs.Nodup && (xs.map nmS).eraseDups.length == (xs.map nmS).length with | true=>some (sAsgT xs m) | false=>none
 | .Call .. | .Name ..=>some (sAsgT xs m)
 | _=>none
noncomputable def isEnum(sc:Scp)(g:PX):Bool:=match g with
 | .Name x _=>okNm x && sc.lookup x == some .globalImplicit && isBlt ((idx x).bind fun i=>G.lookup i) fun b=>b == 6
 | _=>false
noncomputable def enumArg(sc:Scp):PX→Option PX
 | .Call g [a] [] _=>match isEnum G sc g && plainE a with | true=>some a | false=>none
 | _=>none
noncomputable def compOk(sc:Scp)(x:PS)(xp:Pos):PX→Bool
 | .ListComp _ _ cs ep=>xp.line == ep.line && sc.lookup x == some .local && !(cs.names.any fun p=>p.1 == x && (p.2 == .local || p.2 == .cell))
 | _=>false
noncomputable def trS(sc:Scp):Nat→Stmt→Option SM
 | 0,_=>none
 | f + 1,st=>match st with
  | .Expr e _=>match notComp e with | true=>(trE G sc f e).map sExpr | false=>none
  | .Assign ts e _=>match ts with
   | [t]=>match t with
    | .Name x xp=>(idx x).bind fun i=>match stores sc i with
     | true=>match notComp e || compOk sc x xp e with
      | true=>(trE G sc f e).map (sAsg i)
      | false=>none
     | false=>none
    | .Attribute o x _=>match notComp e with | true=>(trE G sc f o).bind fun mo=>(trE G sc f e).bind fun me=>(idx x).map fun i=>Yz mo i me | false=>none
    | .Subscript o i _=>match notComp e with | true=>(trE G sc f o).bind fun mo=>(trE G sc f i).bind fun mi=>(trE G sc f e).map fun me=>sAsgI mo mi me | false=>none
    | .Tuple es _ _=>(trNms sc es).bind fun xs=>(trE G sc f e).bind fun m=>trAsgT sc es xs m e
    | _=>none
   | _=>none
  | .If e a b _=>(trT (trE G sc f) f e).bind fun t=>(trSL (trS sc f) a).bind fun x=>(trSL (trS sc f) b).map fun y=>sIf t x y
  | .While e b els _=>match els with
   | []=>(trT (trE G sc f) f e).bind fun t=>(trSL (trS sc f) b).map fun x=>sWhile t x
   | _=>none
  | .For tg e b els _=>match els with
   | []=>match enumArg G sc e with
    | some a=>match tg with
     | .Tuple es _ _=>(trNms sc es).bind fun xs=>(trE G sc f a).bind fun m=>(trSL (trS sc f) b).map fun y=>sForE (.many xs) m y
     | _=>none
    | none=>match notSet e with | true=>(trTg sc tg).bind fun t=>(trE G sc f e).bind fun m=>(trSL (trS sc f) b).map fun y=>sFor t m y | false=>none
   | _=>none
  | .Return o _=>match o with | some e=>(trE G sc f e).map sRet | none=>some (sRet eNone)
  | .Break _=>some sBreak
  | .Raise o c _=>match c with
   | none=>match o with
    | some e=>match e with
     | .Call g es ks _=>match notAttr g && ks.isEmpty with
      | true=>match excI G g sc with
       | some c=>(trEs (trE G sc f) es).map fun ms=>sRaise c ms
       | none=>some sStuck
      | false=>some sStuck
     | _=>some sStuck
    | none=>none
   | some _=>none
  | .Try b hs els fin _=>match els with
   | []=>match hs with
    | []=>match fin with
     | []=>none
     | z :: zs=>(trSL (trS sc f) b).bind fun x=>(trSL (trS sc f) (z :: zs)).map fun y=>sTryF x y
    | h :: hs=>match fin with
     | []=>(trSL (trS sc f) b).bind fun x=>(trH G sc (trSL (trS sc f)) (h :: hs)).map fun y=>sTryE x y
     | _=>none
   | _=>none
  | _=>none
end
end
theorem okNm_ok{x:PS}(h:okNm x=true):(x == ("__debug__" : PS))=false∧x≠ "__classdict__" := by
 unfold okNm at h
 rw [Bool.and_eq_true,bne_iff_ne,bne_iff_ne] at h
 exact⟨beq_eq_false_iff_ne.mpr h.1,h.2⟩
theorem attrBase{e:PX}(h:notCall0 e=true)(x:PS)(env:Env)(t:Sem Value):attributeBase e x env t=t:=by
 cases e with
 | Call g as ks p=>cases as with
  | nil=>cases ks with
   | nil=>cases h
   | cons=>cases g <;> rfl
  | cons=>cases g <;> rfl
 | _=>rfl
theorem attr_he{e:PX}{x:PS}{p:Pos}(h:notCall0 e=true)(env:Env):eval (.Attribute e x p) env=(do
   let o ← eval e env
   standAt p.atName
   let r ← holding [o] (getAttr o x true)
   letTemporaryGo e o r
   pure r):=by
 show (do
   let o ← attributeBase e x env (eval e env)
   standAt p.atName
   let r ← holding [o] (getAttr o x true)
   letTemporaryGo e o r
   pure r)=_
 rw [attrBase h]
theorem call_he{e:PX}{es:List PX}{p:Pos}(h:notAttr e=true)(env:Env):eval (.Call e es [] p) env=(do callWith p (← eval e env) [] (backTo p (starEach es env)) (backToKw p (keywordEach [] env))):=by
 cases e <;> first | rfl | cases h
theorem callM_he{e:PX}{x:PS}{es:List PX}{ap p:Pos}(h1:notCall0 e=true)(h2:es.length < 30)(h3:ap.endLine=p.line)(hs:∀ (env:Env) (pos:Pos),(backTo pos (starEach es env)).any (·.1)=false)(env:Env):∃ pl,eval (.Call (.Attribute e x ap) es [] p) env=(do
   let ov ← eval e env
   standAt ap.atName
   let (f,first) ← holding [ov] (getMethod ov x pl)
   callWith p f first (backTo p (starEach es env)) (backToKw p (keywordEach [] env))):=by
 refine ⟨(do return (← importBound e env).getD true),?_⟩
 show (do
  let ov ← attributeBase e x env (eval e env)
  standAt ap.atName
  methodCall e x ap p env ov (es.length + 0) (backTo p (starEach es env)) (backToKw p (keywordEach [] env)))=_
 have few:methodCallForm (es.length + 0) (backTo p (starEach es env)) (backToKw p (keywordEach [] env))=true:=by
  have a:=hs env p
  rw [List.any_eq_false] at a
  have b:(backTo p (starEach es env)).all (!·.1)=true:=List.all_eq_true.mpr fun z hz=>by rw [Bool.not_eq_true',← Bool.not_eq_true];exact a z hz
  show ((backTo p (starEach es env)).all (!·.1) && true && decide (es.length + 0 + 0 < 30))=true
  rw [b,decide_eq_true (by omega)];rfl
 have po:methodCallPos true e env ap p=pure p:=by
  unfold methodCallPos
  rw [h3]
  rw [if_pos (by simp)]
 rw [attrBase h1]
 unfold methodCall
 rw [few,po]
 rfl
theorem swaps_no{e:PX}(h:notComp e=true)(t:Option PX)(k:Nat)(env:Env):swapsWith e t k env=pure false:=by
 cases e <;> first | rfl | cases h
theorem set_no{e:PX}(h:notSet e=true)(env:Env)(x:Value):foldedSetIterable e env x=pure x:=by
 cases e <;> first | rfl | cases h
theorem inter_no(env:Env)(_:env.globals=mainGlobals)(h:env.scope.kind=.function):interactive env=false:=by
 unfold interactive;rw [h];rfl
theorem cmpI_ok{op:CmpOp}{i:Nat}(h:cmpI op=some i):opOf i=op:=by
 cases op <;> cases h <;> rfl
theorem opI_ok{op:Operator}{i:Nat}(h:opI op=some i):opB i=op:=by
 cases op <;> cases h <;> rfl
theorem bindE{α β:Type}{o:Option α}{f:α→Option β}{b:β}(h:o.bind f=some b):∃ a,o=some a∧f a=some b:=Option.bind_eq_some_iff.mp h
theorem mapE{α β:Type}{o:Option α}{f:α→β}{b:β}(h:o.map f=some b):∃ a,o=some a∧f a=b:=Option.map_eq_some_iff.mp h
theorem ifE{α:Type}{c:Bool}{a:Option α}{b:α}(h:(match c with | true=>a | false=>none)=some b):c=true∧a=some b:=by
 cases c with
 | true=>exact⟨rfl,h⟩
 | false=>cases h
theorem ifN{α:Type}{c:Bool}{a:Option α}{b:α}(h:(match c with | false=>a | true=>none)=some b):c=false∧a=some b:=by
 cases c with
 | false=>exact⟨rfl,h⟩
 | true=>cases h
theorem idx_ok{x:PS}{i:Nat}(h:idx x=some i):nmS i=x∧i < names.length:=by
 obtain⟨j,_,h⟩:=bindE h
 obtain⟨c,h⟩:=ifE h
 cases h
 rw [Bool.and_eq_true,beq_iff_eq,decide_eq_true_eq] at c
 exact c
theorem nn{α:Type}{b:α}{P:Prop}(h:(none:Option α)=some b):P:=nomatch h
theorem bindP{α β:Type}{o:Option α}{f:α→Option β}{b:β}{P:Prop}(h:o.bind f=some b)(k:∀ a,o=some a→f a=some b→P):P:=let ⟨a,x,y⟩:=bindE h;k a x y
@[elab_as_elim] theorem mapP{α β:Type}{o:Option α}{f:α→β}{b:β}{P:β→Prop}(h:o.map f=some b)(k:∀ a,o=some a→P (f a)):P b:=let ⟨a,x,y⟩:=mapE h;y ▸ k a x
theorem ifP{α:Type}{c:Bool}{a:Option α}{b:α}{P:Prop}(h:(match c with | true=>a | false=>none)=some b)(k:c=true→a=some b→P):P:=let ⟨x,y⟩:=ifE h;k x y
theorem ifQ{α:Type}{c:Bool}{a:Option α}{b:α}{P:Prop}(h:(match c with | false=>a | true=>none)=some b)(k:c=false→a=some b→P):P:=let ⟨x,y⟩:=ifN h;k x y
section
variable{Z:SA}{w:World}{G:GT}{sc:Scp}
theorem trEs_ok{t:PX→Option EM}(ht:∀ e m,t e=some m→SndE Z w sc m e):∀ {es:List PX} {ms:EMs},trEs t es=some ms→SndEs Z w sc ms es
 | [],ms,h=>by cases h;exact ss_nil
 | e :: r,ms,h=>by
  refine ifP h fun h1 h=>?_
  refine bindP h fun m h2 h=>?_
  refine mapP h fun mr h3=>?_
  exact ss_cons (ht _ _ h2) (trEs_ok ht h3) h1
theorem trB_ok{op:BoolOp}{t:PX→Option EM}(ht:∀ e m,t e=some m→SndE Z w sc m e):∀ {es:List PX} {m:EM},trB op t es=some m→SndB Z w sc op m es
 | [],m,h=>by exact nn h
 | [e],m,h=>sB_one (ht _ _ h)
 | e :: e' :: r,m,h=>by
  refine bindP h fun m1 h1 h=>?_
  refine mapP h fun m2 h2=>?_
  cases op with
  | And=>exact sB_and (ht _ _ h1) (trB_ok ht h2)
  | Or=>exact sB_or (ht _ _ h1) (trB_ok ht h2)
theorem trBT_ok{op:BoolOp}{p:Pos}{t:PX→Option TM}(ht:∀ e m,t e=some m→SndT Z w sc m e):∀ {es:List PX} {m:TM},trBT op t es=some m→SndT Z w sc m (.BoolOp op es p)
 | [],m,h=>by
  cases op with
  | And=>cases h;exact sT_and0
  | Or=>cases h;exact sT_or0
 | e :: r,m,h=>by
  refine bindP h fun m1 h1 h=>?_
  refine mapP h fun m2 h2=>?_
  cases op with
  | And=>exact sT_and (ht _ _ h1) (trBT_ok ht h2)
  | Or=>exact sT_or (ht _ _ h1) (trBT_ok ht h2)
theorem trT_ok(O:KOk Z w){t:PX→Option EM}(ht:∀ e m,t e=some m→SndE Z w sc m e):∀ (f:Nat) (e:PX) (m:TM),trT t f e=some m→SndT Z w sc m e:=by
 intro f
 induction f with
 | zero=>intro e m h;exact nn h
 | succ f ih =>
  intro e m h
  have other:(match asValue e with | true=>(t e).map tE | false=>none)=some m→SndT Z w sc m e:=fun h=>by
   refine ifP h fun h1 h=>?_
   refine mapP h fun m1 h2=>?_
   exact sT_e (ht _ _ h2) h1
  cases e with
  | UnaryOp op e p=>cases op with
   | Not=>refine mapP h fun m1 h1=>?_;exact sT_not (ih _ _ h1)
   | _=>exact other h
  | BoolOp op es p=>exact trBT_ok ih h
  | Compare a ops bs p =>
   match ops,bs,h,other with
   | [op],[b],h,_ =>
    refine bindP h fun i h1 h=>?_
    refine ifQ h fun h2 h=>?_
    refine bindP h fun m1 h3 h=>?_
    refine mapP h fun m2 h4=>?_
    exact sT_cmp O (ht _ _ h3) (ht _ _ h4) (cmpI_ok h1) h2
   | [],_,h,o=>exact o h
   | [_],[],h,o=>exact o h
   | [_],_ :: _ :: _,h,o=>exact o h
   | _ :: _ :: _,_,h,o=>exact o h
  | _=>exact other h
theorem trNms_ok:∀ {es:List PX} {xs:List Nat},trNms sc es=some xs→NmsE sc xs es
 | [],xs,h=>by cases h;exact .nil
 | e :: r,xs,h=>by
  cases e with
  | Name y p =>
   refine bindP h fun i h1 h=>?_
   refine ifP h fun h2 h=>?_
   refine mapP h fun l h3=>?_
   exact .cons (idx_ok h1).1 h2 (trNms_ok h3)
  | _=>exact nn h
theorem trTg_ok{e:PX}{t:TGT}(h:trTg sc e=some t):TgtE sc t e:=by
 cases e with
 | Name y p =>
  refine bindP h fun i h1 h=>?_
  refine ifP h fun h2 h=>?_
  obtain rfl:=Option.some.inj h
  exact .one (idx_ok h1).1 h2
 | Tuple es i p=>exact mapP h fun l h3=>.many (trNms_ok h3)
 | _=>exact nn h
noncomputable def GOk(Z:SA)(w:World)(G:GT):Prop:=∀ i v,G.lookup i=some v→gloOk Z w (nmS i) v=true
end
section
variable{Z:SA}{w:World}{G:GT}{sc:Scp}
set_option tactic.hygienic true in
theorem name_ok(hG:GOk Z w G){f:Nat}{x:PS}{p:Pos}{m:EM}(h:trE G sc (f + 1) (.Name x p)=some m):SndE Z w sc m (.Name x p):=by
 refine ifP h fun h1 h=>?_
 refine bindP h fun i h2 h=>?_
 obtain⟨a,b⟩:=okNm_ok h1
 split at h
 ·rename_i q
  refine mapP h fun v h3=>?_
  have:=hG i v h3
  rw [(idx_ok h2).1] at this
  exact sE_glo q this a
 ·cases h
  exact sE_loc (idx_ok h2).1 a b
theorem const_ok{f:Nat}{c:Const}{i:Nat}{p:Pos}{m:EM}(h:trE G sc (f + 1) (.Constant c i p)=some m):SndE Z w sc m (.Constant c i p):=by
 cases c with
 | none=>cases h;exact sE_none
 | bool b=>cases h;exact sE_bool
 | int z=>cases z with
  | ofNat z=>cases h;exact sE_int
  | negSucc z=>exact nn h
 | str x =>
  refine mapP h fun i h1=>?_
  exact sE_str (idx_ok h1).1 (idx_ok h1).2
 | _=>exact nn h
theorem gloV_ok(hG:GOk Z w G){g:PX}{v:V}(h:gloV G sc g=some v):∃ x p,g=.Name x p∧sc.lookup x=some .globalImplicit∧gloOk Z w x v=true∧(x == ("__debug__" : PS))=false:=by
 cases g with
 | Name x p =>
  refine ifP h fun h1 h=>?_
  refine bindP h fun i h2 h=>?_
  rw [Bool.and_eq_true,beq_iff_eq] at h1
  have:=hG i _ h
  rw [(idx_ok h2).1] at this
  exact⟨x,p,rfl,h1.2,this,(okNm_ok h1.1).1⟩
 | _=>exact nn h
theorem strK_ok{o:Option PX}{c:PS}(h:strK o=some c):∃ i p,o=some (.Constant (.str c) i p):=by
 cases o with
 | none=>exact nn h
 | some e=>cases e with
  | Constant k i p=>cases k with
   | str x=>obtain rfl:=Option.some.inj h;exact⟨i,p,rfl⟩
   | _=>exact nn h
  | _=>exact nn h
theorem dict_ok(hG:GOk Z w G){ks:List (Option PX)}{vs:List PX}{p:Pos}{m:EM}(h:trDict G sc ks vs=some m):SndE Z w sc m (.Dict ks vs p):=by
 match ks,vs,h with
 | [],[],h=>obtain rfl:=Option.some.inj h;exact sE_dict
 | [k0,k1],[v0,v1],h =>
  refine bindP h fun c0 q0 h=>?_
  refine bindP h fun c1 q1 h=>?_
  refine ifP h fun h1 h=>?_
  refine bindP h fun a h2 h=>?_
  refine mapP h fun b h3=>?_
  obtain⟨_,_,rfl⟩:=strK_ok q0
  obtain⟨_,_,rfl⟩:=strK_ok q1
  rw [Bool.and_eq_true,beq_iff_eq,beq_iff_eq] at h1
  obtain⟨x,px,rfl,a1,a2,a3⟩:=gloV_ok hG h2
  obtain⟨y,py,rfl,b1,b2,b3⟩:=gloV_ok hG h3
  exact sE_dictS (idx_ok h1.1).1 (idx_ok h1.2).1 a1 b1 a2 b2 a3 b3
 | [],_ :: _,h=>exact nn h
 | [_],_,h=>exact nn h
 | [_,_],[],h=>exact nn h
 | [_,_],[_],h=>exact nn h
 | [_,_],_ :: _ :: _ :: _,h=>exact nn h
 | _ :: _ :: _ :: _,_,h=>exact nn h
inductive CompInv(G:GT)(sc:Scp)(f:Nat)(elt:PX)(gens:List Comprehension)(cs:Scope)(m:EM):Prop
 | mk (t it:PX) (tg:TGT) (mi me:EM):gens=[⟨t,it,[],0⟩]→notSet it=true→trTg cs.names t=some tg→trE G sc f it=some mi→trE G cs.names f elt=some me→compScOk sc cs (freeI cs.names) tg=true→eComp me tg mi (freeI cs.names)=m→CompInv G sc f elt gens cs m
theorem comp_inv{f:Nat}{elt:PX}{gens:List Comprehension}{cs:Scope}{p:Pos}{m:EM}(h:trE G sc (f + 1) (.ListComp elt gens cs p)=some m):CompInv G sc f elt gens cs m:=by
 cases gens with
 | nil=>exact nn h
 | cons g r =>
  obtain⟨t,it,ifs,a⟩:=g
  cases ifs with
  | cons=>cases r <;> exact nn h
  | nil=>cases r with
   | cons=>exact nn h
   | nil =>
    refine ifP h fun h1 h=>?_
    refine bindP h fun tg h2 h=>?_
    refine bindP h fun mi h3 h=>?_
    refine bindP h fun me h4 h=>?_
    refine ifP h fun h5 h6=>?_
    rw [Bool.and_eq_true,decide_eq_true_eq] at h1
    obtain⟨h1,rfl⟩:=h1
    exact⟨t,it,tg,mi,me,rfl,h1,h2,h3,h4,h5,Option.some.inj h6⟩
theorem trE_ok(O:KA Z w)(hG:GOk Z w G):∀ (f:Nat) (sc:Scp) (e:PX) (m:EM),trE G sc f e=some m→SndE Z w sc m e:=by
 intro f
 induction f with
 | zero=>intro sc e m h;exact nn h
 | succ f ih =>
  intro sc e m h
  have part:∀ (o:Option PX) (a:EM),(match o with | none=>some eNone | some x=>trE G sc f x)=some a→SndP Z w sc a o:=fun o a h=>by
   cases o with
   | none=>cases h;exact sP_none
   | some x=>exact sP_some (ih sc _ _ h)
  cases e with
  | Constant c i p=>exact const_ok h
  | Name x p=>exact name_ok hG h
  | Attribute e x p =>
   refine ifP h fun h1 h=>?_
   refine bindP h fun m1 h2 h=>?_
   refine mapP h fun i h3=>?_
   exact sE_attr O (ih sc _ _ h2) (idx_ok h3).1 (attr_he h1)
  | Call g es ks p=>cases ks with
   | cons=>exact nn h
   | nil =>
    have gen:notAttr g=true→((trE G sc f g).bind fun m=>(trEs (trE G sc f) es).map fun ms=>Xa m ms)=some m→SndE Z w sc m (.Call g es [] p):=fun n h=>by
     refine bindP h fun m1 h2 h=>?_
     refine mapP h fun ms h3=>?_
     exact sE_call O (ih sc _ _ h2) (trEs_ok (ih sc) h3) (call_he n)
    cases g with
    | Attribute o x ap =>
     refine ifP h fun h1 h=>?_
     refine bindP h fun m1 h2 h=>?_
     refine bindP h fun ms h3 h=>?_
     refine mapP h fun i h4=>?_
     rw [Bool.and_eq_true,Bool.and_eq_true,decide_eq_true_eq,beq_iff_eq] at h1
     exact sE_callM O (ih sc _ _ h2) (trEs_ok (ih sc) h3) (idx_ok h4).1 (callM_he h1.1.1 h1.1.2 h1.2 (trEs_ok (ih sc) h3).1)
    | _=>exact gen rfl h
  | BinOp a op b p =>
   refine bindP h fun i h1 h=>?_
   refine bindP h fun m1 h2 h=>?_
   refine mapP h fun m2 h3=>?_
   exact sE_bin (ih sc _ _ h2) (ih sc _ _ h3) (opI_ok h1)
  | Compare a ops bs p =>
   cases ops with
   | nil=>exact nn h
   | cons op r=>cases r with
    | cons=>exact nn h
    | nil=>cases bs with
     | nil=>exact nn h
     | cons b r=>cases r with
      | cons=>exact nn h
      | nil =>
       refine bindP h fun i h1 h=>?_
       refine ifQ h fun h2 h=>?_
       refine bindP h fun m1 h3 h=>?_
       refine mapP h fun m2 h4=>?_
       exact sE_cmp O.toKOk (ih sc _ _ h3) (ih sc _ _ h4) (cmpI_ok h1) h2
  | BoolOp op es p=>exact sE_bool2 (trB_ok (ih sc) h)
  | UnaryOp op e p =>
   cases op with
   | USub=>refine mapP h fun m1 h1=>?_;exact sE_neg (ih sc _ _ h1)
   | _=>exact nn h
  | IfExp a b c p =>
   refine bindP h fun m1 h1 h=>?_
   refine bindP h fun m2 h2 h=>?_
   refine mapP h fun m3 h3=>?_
   exact sE_ite (trT_ok O.toKOk (ih sc) _ _ _ h1) (ih sc _ _ h2) (ih sc _ _ h3)
  | List es p =>
   refine ifP h fun h1 h=>?_
   refine mapP h fun ms h2=>?_
   exact sE_list (trEs_ok (ih sc) h2) (of_decide_eq_true h1)
  | Tuple es i p =>
   refine ifP h fun h1 h=>?_
   refine mapP h fun ms h2=>?_
   exact sE_tup (trEs_ok (ih sc) h2) (of_decide_eq_true h1)
  | Subscript e i p =>
   have gen:notSlice i=true→((trE G sc f e).bind fun m=>(trE G sc f i).map fun a=>Xj m a)=some m→SndE Z w sc m (.Subscript e i p):=fun n h=>by
    refine bindP h fun m1 h1 h=>?_
    refine mapP h fun m2 h2=>?_
    exact sE_idx (ih sc _ _ h1) (ih sc _ _ h2) n
   cases i with
   | Slice lo hi st sp=>cases st with
    | some _=>exact nn h
    | none =>
     refine bindP h fun m1 h1 h=>?_
     refine bindP h fun m2 h2 h=>?_
     refine mapP h fun m3 h3=>?_
     exact sE_slc (ih sc _ _ h1) (part _ _ h2) (part _ _ h3)
   | _=>exact gen rfl h
  | Dict ks vs p=>exact dict_ok hG h
  | ListComp elt gens cs p =>
   obtain⟨t,it,tg,mi,me,rfl,h1,h2,h3,h4,h5,rfl⟩:=comp_inv h
   exact sE_comp (trTg_ok h2) (ih sc _ _ h3) (ih cs.names _ _ h4) h5 (set_no h1)
  | _=>exact nn h
end
noncomputable def nameAt(env:Env)(ts:List PX):PX→Option PS
 | .Name id pos=>if (env.kindOf id == some .local && pos.line == headLine ts)=true then some id else none
 | _=>none
theorem nameAt_ok{env:Env}{ts:List PX}{y:PS}{p:Pos}(k:env.kindOf y=some .local)(h:(p.line == headLine ts)=true):nameAt env ts (.Name y p)=some y:=if_pos (by rw [k,h];rfl)
theorem swaps_of{ts vs:List PX}{i j:Nat}{tp q:Pos}{nm:List PS}{env:Env}(hl:(ts.length == 2 || ts.length == 3)=true)(hv:(vs.length == ts.length)=true)(hb:env.blockKind=.function)(hs:vs.any isStar=false)
  (hn:ts.filterMap (nameAt env ts)=nm) (n1:(nm.length == ts.length)=true) (n2:(nm.eraseDups.length == nm.length)=true) (hf:vs.all (foldedForSure 8)=false) (hc:vs.all (constantsAlone 8)=false) :
  swappedStores [.Tuple ts i tp] (.Tuple vs j q) env=pure (some nm):=by
 subst hn
 have h1:¬ ((!(ts.length == 2 || ts.length == 3) || vs.length != ts.length || env.blockKind != .function)=true):=by rw [hl,bne,hv,hb];decide
 have h2:¬ (vs.any isStar=true):=by rw [hs];decide
 have h3:¬ (((ts.filterMap (nameAt env ts)).length != ts.length || (ts.filterMap (nameAt env ts)).eraseDups.length != (ts.filterMap (nameAt env ts)).length)=true):=by rw [bne,n1,bne,n2];decide
 exact (if_neg h1).trans ((if_neg h2).trans ((if_neg h3).trans ((if_neg (by rw [hf];decide)).trans (if_neg (by rw [hc];decide)))))
section
variable{Z:SA}{w:World}{G:GT}{sc:Scp}
theorem sS_stuck{st:Stmt}:SndS1 Z w sc sStuck st:=fun _ _ _ _ _ _ _ _ _ _ _ q=>nomatch q
theorem trSL_ok{t:Stmt→Option SM}(ht:∀ e m,t e=some m→SndS1 Z w sc m e):∀ (es:List Stmt) (ms:SM),trSL t es=some ms→SndS Z w sc ms es
 | [],ms,h=>by cases h;exact sS_nil
 | e :: r,ms,h=>by
  refine bindP h fun m h2 h=>?_
  refine mapP h fun mr h3=>?_
  exact sS_cons (ht _ _ h2) (trSL_ok ht _ _ h3)
theorem asCls_ok{α:Type}{o:Option V}{k:Nat→Option α}{r:α}(h:asCls o k=some r):∃ c,o=some (.a (.cls c))∧k c=some r:=by
 cases o with
 | none=>cases h
 | some v=>cases v with
  | a c=>cases c with | cls c=>exact⟨c,rfl,h⟩ | _=>cases h
  | _=>cases h
theorem isBlt_ok{o:Option V}{k:Nat→Bool}(h:isBlt o k=true):∃ c,o=some (.a (.blt c))∧k c=true:=by
 cases o with
 | none=>cases h
 | some v=>cases v with
  | a c=>cases c with | blt c=>exact⟨c,rfl,h⟩ | _=>cases h
  | _=>cases h
theorem excI_ok(hG:GOk Z w G){g:PX}{c:Nat}(h:excI G g sc=some c):∃ cd x1 x2,clT.get c=some cd∧cd.kind=2∧cd.fields=[x1,x2]∧SndE Z w sc (Xg (.a (.cls c))) g:=by
 cases g with
 | Name x p =>
  refine ifP h fun h1 h=>?_
  refine bindP h fun i h2 h=>?_
  rw [Bool.and_eq_true,beq_iff_eq] at h1
  obtain⟨c',hc,h⟩:=asCls_ok h
  refine bindP h fun cd h3 h=>?_
  refine ifP h fun h4 h=>?_
  obtain rfl:=Option.some.inj h
  rw [Bool.and_eq_true,beq_iff_eq,beq_iff_eq] at h4
  obtain⟨x1,x2,hf⟩:=two_of (a:=0) (b:=0) h4.2
  have:=hG i _ hc
  rw [(idx_ok h2).1] at this
  exact⟨cd,x1,x2,h3,h4.1,hf,sE_glo h1.2 this (okNm_ok h1.1).1⟩
 | _=>exact nn h
theorem trH_ok(O:KB Z w)(hG:GOk Z w G){s:List Stmt→Option SM}(hs:∀ b m,s b=some m→SndS Z w sc m b):∀ (l:List ExceptHandler) (m:HM),trH G sc s l=some m→SndH Z w sc m l
 | [],m,h=>by cases h;exact sH_nil
 | .ExceptHandler none _ _ _ :: _,m,h=>by exact nn h
 | .ExceptHandler (some t) none _ _ :: _,m,h=>by exact nn h
 | .ExceptHandler (some t) (some x) b p :: r,m,h=>by
  refine bindP h fun d h1 h=>?_
  refine bindP h fun nm h2 h=>?_
  refine ifP h fun h3 h=>?_
  refine bindP h fun mb h4 h=>?_
  refine mapP h fun mr h5=>?_
  obtain⟨cd,x1,x2,g1,g2,_,g3⟩:=excI_ok hG h1
  rw [Bool.and_eq_true] at h3
  cases b with
  | nil=>cases h3.2
  | cons b0 bs=>exact sH_cons O g1 g2 g3 (idx_ok h2).1 h3.1 (hs _ _ h4) (trH_ok O hG hs r mr h5)
theorem isEnum_ok(hG:GOk Z w G){g:PX}(h:isEnum G sc g=true):SndE Z w sc (Xg (.a (.blt 6))) g:=by
 cases g with
 | Name x p =>
  unfold isEnum at h
  rw [Bool.and_eq_true,Bool.and_eq_true,beq_iff_eq] at h
  obtain⟨⟨h1,h2⟩,h⟩:=h
  obtain⟨b,hb,h⟩:=isBlt_ok h
  refine bindP hb fun i h3 h4=>?_
  obtain rfl:=eq_of_beq h
  have:=hG i _ h4
  rw [(idx_ok h3).1] at this
  exact sE_glo h2 this (okNm_ok h1).1
 | _=>exact ff h
theorem nms_cons{e:PX}{r:List PX}{xs:List Nat}(h:trNms sc (e :: r)=some xs):∃ y p,e=.Name y p∧∃ a l,idx y=some a∧trNms sc r=some l∧xs=a :: l:=by
 cases e with
 | Name y p =>
  refine bindP h fun a i1 h=>?_
  refine ifP h fun _ h=>?_
  obtain⟨l,h,e⟩:=mapE h
  exact⟨y,p,rfl,a,l,i1,h,e.symm⟩
 | _=>exact nn h
theorem names_of{env:Env}{ts:List PX}:∀ {es:List PX} {xs:List Nat},trNms sc es=some xs→(∀ e∈es,(e.pos.line == headLine ts)=true)→(∀ x∈xs,env.kindOf (nmS x)=some .local)→es.filterMap (nameAt env ts)=xs.map nmS∧xs.length=es.length
 | [],_,h,_,_=>by cases h;exact⟨rfl,rfl⟩
 | e :: es,xs,h,hl,hk=>by
  obtain⟨y,p,rfl,a,l,i1,h3,rfl⟩:=nms_cons h
  obtain⟨h1,h2⟩:=names_of h3 (fun e he=>hl e (.tail _ he)) (fun x hx=>hk x (.tail _ hx))
  have k:=hk a (.head _)
  rw [(idx_ok i1).1] at k
  exact⟨by rw [List.filterMap_cons_some (nameAt_ok (p:=p) k (hl _ (.head _))),h1,List.map_cons,(idx_ok i1).1],congrArg (· + 1) h2⟩
theorem asgT_ok{e:PX}{es:List PX}{xs:List Nat}{m:EM}{i:Nat}{tp p:Pos}(y:SndE Z w sc m e)(hx:trNms sc es=some xs){r:SM}(h:trAsgT sc es xs m e=some r):SndS1 Z w sc r (.Assign [.Tuple es i tp] e p):=by
 cases e with
 | Call g as ks q=>obtain rfl:=Option.some.inj h;exact sS_asgT y (trNms_ok hx) (fun _=>rfl) (fun _=>rfl)
 | Name x q=>obtain rfl:=Option.some.inj h;exact sS_asgT y (trNms_ok hx) (fun _=>rfl) (fun _=>rfl)
 | Tuple vs j q =>
  refine ifP h fun h1 h=>?_
  obtain rfl:=Option.some.inj h
  rw [Bool.and_eq_true,Bool.and_eq_true,Bool.and_eq_true,decide_eq_true_eq] at h1
  obtain⟨⟨⟨h1,hl⟩,nd⟩,he⟩:=h1
  unfold swaps at h1
  rw [Bool.and_eq_true,Bool.and_eq_true,Bool.and_eq_true,Bool.and_eq_true,Bool.and_eq_true,Bool.not_eq_true',Bool.not_eq_true',Bool.not_eq_true'] at h1
  obtain⟨⟨⟨⟨⟨g1,g2⟩,g3⟩,g4⟩,g5⟩,g6⟩:=h1
  refine sS_asgS y hl nd (fun _=>rfl) fun env hk hb=>?_
  obtain⟨e1,e2⟩:=names_of hx (List.all_eq_true.mp g3) hk
  exact swaps_of g1 g2 hb g4 e1 (by rw [List.length_map,e2];exact beq_self_eq_true _) he g5 g6
 | _=>exact nn h
end
section
variable{Z:SA}{w:World}{G:GT}{sc:Scp}
theorem asg_ok(O:KA Z w)(hG:GOk Z w G){f:Nat}{x:PS}{xp p:Pos}{e:PX}{m:SM}(h:trS G sc (f + 1) (.Assign [.Name x xp] e p)=some m):SndS1 Z w sc m (.Assign [.Name x xp] e p):=by
 refine bindP h fun i h1 h=>?_
 refine ifP h fun h2 h=>?_
 have nm:=idx_ok h1
 refine ifP h fun h3 h=>?_
 refine mapP h fun me h4=>?_
 cases n:notComp e with
 | true=>exact sS_asg (trE_ok O hG f sc _ _ h4) nm.1 h2 (fun env=>swaps_no n _ _ env)
 | false =>
  rw [n] at h3
  cases e with
  | ListComp elt gens cs ep =>
   cases f with
   | zero=>exact nn h4
   | succ f =>
    obtain⟨t,it,tg,mi,ml,rfl,g1,g2,g3,g4,g5,rfl⟩:=comp_inv h4
    have h3:(xp.line == ep.line && sc.lookup x == some .local && !(cs.names.any fun p=>p.1 == x && (p.2 == .local || p.2 == .cell)))=true:=h3
    rw [Bool.and_eq_true,Bool.and_eq_true,beq_iff_eq,beq_iff_eq,Bool.not_eq_true'] at h3
    refine sS_asgC (trTg_ok g2) (trE_ok O hG f sc _ _ g3) (trE_ok O hG f cs.names _ _ g4) g5 (set_no g1) nm.1 (by rw [nm.1,h3.1.2,decide_eq_true nm.2];rfl) fun env hk hl=>?_
    have bk:env.blockKind=.function:=by unfold Env.blockKind;rw [hk];rfl
    show pure (env.blockKind == .function && env.kindOf x == some .local && xp.line == ep.line && !(cs.names.any fun p=>p.1 == x && (p.2 == .local || p.2 == .cell)))=_
    rw [bk,hl,h3.1.1,h3.2]
    simp
  | _=>exact ff h3
theorem enum_ok{e a:PX}(h:enumArg G sc e=some a):∃ g p,e=.Call g [a] [] p∧isEnum G sc g=true∧plainE a=true:=by
 cases e with
 | Call g as ks p =>
  cases as with
  | nil=>exact nn h
  | cons b r=>cases r with
   | cons=>exact nn h
   | nil=>cases ks with
    | cons=>exact nn h
    | nil =>
     refine ifP h fun h1 h=>?_
     obtain rfl:=Option.some.inj h
     rw [Bool.and_eq_true] at h1
     exact⟨_,_,rfl,h1.1,h1.2⟩
 | _=>exact nn h
theorem trS_ok(O:KB Z w)(M:MkExc Z w)(hG:GOk Z w G):∀ (f:Nat) (s:Stmt) (m:SM),trS G sc f s=some m→SndS1 Z w sc m s:=by
 intro f
 induction f with
 | zero=>intro s m h;exact nn h
 | succ f ih =>
  intro s m h
  have ie:=trE_ok O.toKA hG f sc
  have ib:=trSL_ok (sc:=sc) ih
  have it:=trT_ok O.toKOk ie f
  cases s with
  | Expr e p =>
   refine ifP h fun h1 h=>?_
   refine mapP h fun me h2=>?_
   exact sS_expr (ie _ _ h2) inter_no (fun env=>swaps_no h1 _ _ env)
  | Assign ts e p =>
   cases ts with
   | nil=>exact nn h
   | cons t r=>cases r with
    | cons=>exact nn h
    | nil=>cases t with
     | Name x xp=>exact asg_ok O.toKA hG h
     | Attribute o x ap =>
      refine ifP h fun h1 h=>?_
      refine bindP h fun mo h2 h=>?_
      refine bindP h fun me h3 h=>?_
      refine mapP h fun i h4=>?_
      exact sS_asgA O.toKA (ie _ _ h2) (ie _ _ h3) (idx_ok h4).1 (fun env=>swaps_no h1 _ _ env)
     | Subscript o i ip =>
      refine ifP h fun h1 h=>?_
      refine bindP h fun mo h2 h=>?_
      refine bindP h fun mi h3 h=>?_
      refine mapP h fun me h4=>?_
      exact sS_asgI (ie _ _ h2) (ie _ _ h3) (ie _ _ h4) (fun env=>swaps_no h1 _ _ env)
     | Tuple es i tp =>
      refine bindP h fun xs h1 h=>?_
      refine bindP h fun me h2 h=>?_
      exact asgT_ok (ie _ _ h2) h1 h
     | _=>exact nn h
  | If e a b p =>
   refine bindP h fun t h1 h=>?_
   refine bindP h fun x h2 h=>?_
   refine mapP h fun y h3=>?_
   exact sS_if (it _ _ h1) (ib _ _ h2) (ib _ _ h3)
  | While e b els p =>
   cases els with
   | cons=>exact nn h
   | nil =>
    refine bindP h fun t h1 h=>?_
    refine mapP h fun x h2=>?_
    exact sS_while (it _ _ h1) (ib _ _ h2)
  | For t e b els p =>
   cases els with
   | cons=>exact nn h
   | nil =>
    have h:(match enumArg G sc e with
     | some a=>match (generalizing:=false) t with
      | .Tuple es _ _=>(trNms sc es).bind fun xs=>(trE G sc f a).bind fun m=>(trSL (trS G sc f) b).map fun y=>sForE (.many xs) m y
      | _=>none
     | none=>match notSet e with | true=>(trTg sc t).bind fun t=>(trE G sc f e).bind fun m=>(trSL (trS G sc f) b).map fun y=>sFor t m y | false=>none)=some m:=h
    cases q:enumArg G sc e with
    | none =>
     rw [q] at h
     refine ifP h fun h1 h=>?_
     refine bindP h fun tg h2 h=>?_
     refine bindP h fun mm h3 h=>?_
     refine mapP h fun y h4=>?_
     exact sS_for (trTg_ok h2) (ie _ _ h3) (ib _ _ h4) (set_no h1)
    | some a =>
     rw [q] at h
     obtain⟨g,p',rfl,h1,h2⟩:=enum_ok q
     cases t with
     | Tuple es i tp =>
      refine bindP h fun xs h3 h=>?_
      refine bindP h fun ma h4 h=>?_
      refine mapP h fun mb h5=>?_
      have gn:notAttr g=true:=by cases g <;> first | rfl | cases h1
      exact sS_forE (trNms_ok h3) (isEnum_ok hG h1) (ie _ _ h4) (ib _ _ h5) h2 (call_he gn) (fun _ _=>rfl)
     | _=>exact nn h
  | Return o p=>cases o with
   | none=>obtain rfl:=Option.some.inj h;exact sS_ret0
   | some e=>exact mapP h fun me h2=>sS_ret (ie _ _ h2)
  | Break p=>obtain rfl:=Option.some.inj h;exact sS_brk
  | Raise o c p=>cases c with
   | some _=>exact nn h
   | none=>cases o with
    | none=>exact nn h
    | some e=>cases e with
     | Call g es ks q =>
      replace h:(match notAttr g && ks.isEmpty with
       | true=>match excI G g sc with
        | some c=>(trEs (trE G sc f) es).map fun ms=>sRaise c ms
        | none=>some sStuck
       | false=>some sStuck)=some m:=h
      cases n:notAttr g && ks.isEmpty with
      | false=>rw [n] at h;obtain rfl:=Option.some.inj h;exact sS_stuck
      | true =>
       rw [n] at h
       obtain⟨n1,n2⟩:=Bool.and_eq_true_iff.mp n
       obtain rfl:=List.isEmpty_iff.mp n2
       cases q:excI G g sc with
       | none=>rw [q] at h;obtain rfl:=Option.some.inj h;exact sS_stuck
       | some c =>
        rw [q] at h
        refine mapP h fun ms h1=>?_
        obtain⟨cd,x1,x2,g1,g2,g3,g4⟩:=excI_ok hG q
        exact sS_raise O.toKA M g1 g2 g3 g4 (trEs_ok ie h1) (call_he n1)
     | _=>obtain rfl:=Option.some.inj h;exact sS_stuck
  | Try b hs els fin p =>
   cases els with
   | cons=>exact nn h
   | nil=>cases hs with
    | nil=>cases fin with
     | nil=>exact nn h
     | cons z zs =>
      refine bindP h fun x h1 h=>?_
      refine mapP h fun y h2=>?_
      exact sS_tryF (ib _ _ h1) (ib _ _ h2)
    | cons hh hs=>cases fin with
     | cons=>exact nn h
     | nil =>
      refine bindP h fun x h1 h=>?_
      refine mapP h fun y h2=>?_
      exact sS_tryE (ib _ _ h1) (trH_ok O hG ib _ _ h2)
  | _=>exact nn h
end
end Mine
end
section
open PySem renaming Expr→PX,Str→PS
open PySem PySem.W
namespace MH
noncomputable abbrev prog:=PySem.Challenge.pw_np0117_01
noncomputable def benv:Env:={ scope:=prog.main.scope,locals:=mainNs,globals:=mainNs,cells:=[],code:=.ref 13,frame:=some 14 }
noncomputable def zpos:Pos:=⟨0,0,0,0⟩
noncomputable def bc:Code:=.body prog.main.body benv
noncomputable def subSt:Stmt→Nat→Stmt
 | .ClassDef _ _ _ b _ _ _ _ _ _ _,i=>b.getD i (.Pass zpos)
 | s,_=>s
noncomputable def fnPar:Stmt→Arguments
 | .FunctionDef _ a _ _ _ _ _ _ _ _=>a
 | _=>⟨[],[],none,[],[],none,[]⟩
noncomputable def fnBody:Stmt→List Stmt
 | .FunctionDef _ _ b _ _ _ _ _ _ _=>b
 | _=>[]
noncomputable def fnScope:Stmt→Scope
 | .FunctionDef _ _ _ _ _ _ s _ _ _=>s
 | _=>{ kind:=.module,names:=[],isGenerator:=false,isCoroutine:=false,more:=[] }
noncomputable def tp(xs:List Value):Obj:={ cls:=.type "tuple",data:=.seq xs.toArray }
noncomputable def fl(xs:List Value):Obj:={ cls:=.none,data:=.fields xs.toArray }
noncomputable def cls1(t:String)(xs:List Value):Obj:={ cls:=.type t,data:=.fields xs.toArray }
noncomputable def fileV(t:Nat):Value:=.str "/claim/cut.py" t
noncomputable def strsFrom:Nat→List Str→List Value
 | _,[]=>[]
 | t,s :: r=>.str s t :: strsFrom (t + 1) r
noncomputable def fn7(st:Stmt)(n t line:Nat)(name qual:Str)(names cells:List Str)(dv pm:Value):List Obj :=
 let m:=names.length + cells.length
 let p:=fnPar st
 [tp [],fl [],tp (strsFrom (t + 3) names),tp (strsFrom (t + 3 + names.length) cells),
 { cls:=.none,data:=.func { name:=name,qualname:=qual,params:=p,body:=.stmts (fnBody st),scope:=fnScope st,globals:=builtinsNs,closure:=[],defaults:=.none,kwdefaults:=.none } },
 cls1 "code" [.str name t,.str qual (t + 1),fileV (t + 2),.int line 0,.int p.args.length 0,.int 0 0,.int 0 0,.int 3 0,.ref n,.bool true,.int 181 0,.ref (n + 1),.none,.ref (n + 2),.ref (n + 3),.ref (n + 4),.int (t + 3 + m:Nat) 0,.int line 0,fileV (t + 4 + m)],
 { cls:=.type "function",data:=.func { name:=name,qualname:=qual,params:=p,body:=.stmts (fnBody st),scope:=fnScope st,globals:=mainNs,closure:=[],defaults:=dv,kwdefaults:=.none,pyModule:=pm,code:=.ref (n + 5),builtins:=builtinsNs } }]
noncomputable def fn5(st:Stmt)(n t line:Nat)(name qual:Str)(dv pm:Value):List Obj :=
 let p:=fnPar st
 [tp [],fl [],
 { cls:=.none,data:=.func { name:=name,qualname:=qual,params:=p,body:=.stmts (fnBody st),scope:=fnScope st,globals:=builtinsNs,closure:=[],defaults:=.none,kwdefaults:=.none } },
 cls1 "code" [.str name t,.str qual (t + 1),fileV (t + 2),.int line 0,.int p.args.length 0,.int 0 0,.int 0 0,.int 3 0,.ref n,.bool true,.int 181 0,.ref (n + 1),.none,.none,.none,.ref (n + 2),.int (t + 3:Nat) 0,.int line 0,fileV (t + 4)],
 { cls:=.type "function",data:=.func { name:=name,qualname:=qual,params:=p,body:=.stmts (fnBody st),scope:=fnScope st,globals:=mainNs,closure:=[],defaults:=dv,kwdefaults:=.none,pyModule:=pm,code:=.ref (n + 3),builtins:=builtinsNs } }]
noncomputable def setM(T:BT):Nat→(Obj→Obj)→BT:=@BT.rec (fun _=>Nat→(Obj→Obj)→BT) (fun _ _=>.nil)
 (fun v l r ihl ihr i f=>@Bool.rec (fun _=>BT) (@Bool.rec (fun _=>BT) (.node v l (ihr (Nat.sub (Nat.div i 2) 1) f)) (.node v (ihl (Nat.div i 2) f) r) (Nat.beq (Nat.mod i 2) 1)) (.node (f v) l r) (Nat.beq i 0)) T
noncomputable def altB(os:List Obj):Bool→List Obj:=@List.rec Obj (fun _=>Bool→List Obj) (fun _=>[]) (fun a _ ih b=>@Bool.rec (fun _=>List Obj) (ih true) (a :: ih false) b) os
noncomputable def bld(k:Nat):List Obj→BT:=@Nat.rec (fun _=>List Obj→BT) (fun _=>.nil) (fun _ ih os=>@List.rec Obj (fun _=>BT) .nil (fun o r _=>.node o (ih (altB r true)) (ih (altB r false))) os) k
noncomputable def insM(T:BT):Nat→List Obj→BT:=@BT.rec (fun _=>Nat→List Obj→BT) (fun _ os=>bld 12 os)
 (fun v l r ihl ihr n os=>@List.rec Obj (fun _=>BT) (.node v l r) (fun _ _ _=>@Bool.rec (fun _=>BT) (.node v (ihl (Nat.div n 2) (altB os false)) (ihr (Nat.sub (Nat.div n 2) 1) (altB os true))) (.node v (ihl (Nat.div n 2) (altB os true)) (ihr (Nat.div n 2) (altB os false))) (Nat.beq (Nat.mod n 2) 1)) os) T
noncomputable def ent(P:Params)(x:Str)(t:Nat)(v:Value):DictEntry:=⟨PyData.keyHash P x,.str x t,v⟩
noncomputable def pushE(e:DictEntry):Obj→Obj
 | ⟨c,d,.dict es n,s⟩=>⟨c,d,.dict (es.push e) (n + 1),s⟩
 | o=>o
noncomputable def setVal:List DictEntry→Nat→Value→List DictEntry
 | [],_,_=>[]
 | e :: r,0,v=>⟨e.hash,e.key,v⟩ :: r
 | e :: r,i + 1,v=>e :: setVal r i v
noncomputable def putE(i:Nat)(v:Value):Obj→Obj
 | ⟨c,d,.dict es n,s⟩=>⟨c,d,.dict ⟨setVal es.toList i v⟩ n,s⟩
 | o=>o
noncomputable def pushF(xs:List Value):Obj→Obj
 | ⟨c,d,.fields vs,s⟩=>⟨c,d,.fields ⟨vs.toList ++ xs⟩,s⟩
 | o=>o
noncomputable def dct(P:Params)(n:Nat)(es:List (Str × Nat × Value)):Obj:={ cls:=.type "dict",data:=.dict (es.map fun (x,t,v)=>ent P x t v).toArray n }
inductive Op where
 | psh (a:Addr) (x:Str) (t:Nat) (v:Value)
 | put (a:Addr) (i:Nat) (v:Value)
 | app (a:Addr) (xs:List Value)
 | sub (a:Addr) (xs:List Value)
 | rep (a:Addr) (o:Obj)
 | new (n:Nat) (os:List Obj)
noncomputable def subC(xs:List Value):Obj→Obj
 | ⟨c,d,.cls k,s⟩=>⟨c,d,.cls { k with subclasses:=k.subclasses ++ xs },s⟩
 | o=>o
noncomputable def ops(P:Params)(T:BT):List Op→BT
 | []=>T
 | .psh a x t v :: r=>ops P (setM T a (pushE (ent P x t v))) r
 | .put a i v :: r=>ops P (setM T a (putE i v)) r
 | .app a xs :: r=>ops P (setM T a (pushF xs)) r
 | .sub a xs :: r=>ops P (setM T a (subC xs)) r
 | .rep a o :: r=>ops P (setM T a fun _=>o) r
 | .new n os :: r=>ops P (insM T n os) r
noncomputable def o11:Obj:=tp []
noncomputable def o12:Obj:=fl []
noncomputable def o13:Obj:=cls1 "code" [.str "<module>" 182,.str "<module>" 183,fileV 184,.int 1 0,.int 0 0,.int 0 0,.int 0 0,.int 0 0,.ref 11,.bool false,.int 181 0,.ref 12,.none,.none,.none,.none,.int 185 0,.int 1 0,fileV 186]
noncomputable def o14:Obj:={ cls:=.type "frame",slots:=#[some (.ref 13),some (.ref 3),some (.ref 3),none,some (.str "__main__" 164),none,some (.ref 0)] }
noncomputable def T0(P:Params):BT:=bld 12 [boot_o_0 P,boot_o_1 P,boot_o_2 P,boot_o_3 P,boot_o_4 P,boot_o_5 P,boot_o_6 P,boot_o_7 P,boot_o_8 P,boot_o_9 P,boot_o_10 P,o11,o12,o13,o14]
noncomputable def stm(i:Nat):Stmt:=prog.main.body.getD i (.Pass zpos)
noncomputable def sh(w:World)(os:OsState)(T:BT)(n t:Nat):SharedT:=⟨T,n,(boot_heap w.params).life,#[],boot_drawn,t,os⟩
noncomputable def fnNm:Stmt→Str
 | .FunctionDef n _ _ _ _ _ _ _ _ _=>n
 | _=> ""
noncomputable def cat(a b:Str):Str:=⟨⟨a.cps.toList ++ b.cps.toList⟩⟩
noncomputable def oPr:List Obj:=[cls1 "builtin_function_or_method" [.builtin "type.__prepare__",.type "type"]]
noncomputable def ap(l r:Nat):Op:=.app 12 [.int l 0,.int 0 0,.ref r]
noncomputable def pr(x:Str)(t r:Nat):Op:=.psh 3 x t (.ref r)
noncomputable def fnO(i n t line:Nat)(ns:List Str)(M:Value):List Obj:=fn7 (stm i) n t line (fnNm (stm i)) (fnNm (stm i)) ns [] .none M
noncomputable def mOb(st:Stmt)(X:Str)(M:Value):Nat→Nat→Nat→List (Nat × List Str)→List Obj
 | _,_,_,[]=>[]
 | j,n,t,(l,ns) :: r=>fn7 (subSt st j) n t l (fnNm (subSt st j)) (cat X (cat "." (fnNm (subSt st j)))) ns [] .none M ++ mOb st X M (j + 1) (n + 7) (t + 6 + ns.length) r
noncomputable def mKey(st:Stmt):Nat→Nat→Nat→List (Nat × List Str)→List (Str × Nat × Value)→List (Str × Nat × Value)
 | _,_,_,[],e=>e
 | j,n,t,(_,ns) :: r,e=>(fnNm (subSt st j),t + 5 + ns.length,.ref (n + 6)) :: mKey st (j + 1) (n + 7) (t + 6 + ns.length) r e
noncomputable def mPos:Nat→List (Nat × List Str)→List Value
 | _,[]=>[]
 | n,(l,_) :: r=>.int l 0 :: .int 4 0 :: .ref (n + 5) :: mPos (n + 7) r
noncomputable def mTok:Nat→List (Nat × List Str)→Nat
 | t,[]=>t
 | t,(_,ns) :: r=>mTok (t + 6 + ns.length) r
noncomputable def gW(t ty:Nat):Obj:=cls1 "getset_descriptor" [.str "__weakref__" t,.ref ty,.builtin "ExceptionGroup.__weakref__",.none]
noncomputable def clsO(P:Params)(kd:Nat)(b mt:List Value)(i n t line:Nat)(X:Str)(M:Value)(ml:List (Nat × List Str))(sa:List Str):List Obj :=
 let q:=mTok (t + 10) ml
 let a:=n + 7 + 7 * ml.length
 let sk:=q + sa.length
 let ms:List (Str × Nat × Value)→List (Str × Nat × Value):=fun e=>("__module__",t + 5,M) :: e
 let fs:List (Str × Nat × Value)→List (Str × Nat × Value):=fun e=>("__firstlineno__",t + 9,.int line (t + 8:Nat)) :: mKey (stm i) 0 (n + 7) (t + 10) ml (("__static_attributes__",sk,.ref a) :: e)
 let nw:=match kd with | 1=> "Exception.__new__" | _=> "object.__new__"
 [tp b] ++ oPr ++ [dct P (4 + ml.length) (ms (("__qualname__",t + 7,.str X (t + 6)) :: fs [])),tp [],fl (mPos (n + 7) ml),
  cls1 "code" [.str X t,.str X (t + 1),fileV (t + 2),.int line 0,.int 0 0,.int 0 0,.int 0 0,.int 0 0,.ref (n + 3),.bool false,.int 181 0,.ref (n + 4),.none,.none,.none,.none,.int (t + 3:Nat) 0,.int line 0,fileV (t + 4)],
  { cls:=.type "frame",slots:=#[some (.ref (n + 5)),some (.ref 3),some (.ref (n + 2)),none,some M,none,some (.ref 0)] }] ++ mOb (stm i) X M 0 (n + 7) (t + 10) ml ++
 [tp (strsFrom q sa),dct P (match kd with | 0=>4 | 1=>3 | _=>2) (ms (fs (match kd with
   | 0=>[("__dict__",sk + 2,.ref (a + 3)),("__weakref__",sk + 4,.ref (a + 4)),("__doc__",sk + 5,.none)]
   | 1=>[("__weakref__",sk + 2,.ref (a + 3)),("__doc__",sk + 3,.none)]
   | _=>[("__doc__",sk + 1,.none)]))),
  { cls:=.type "type",data:=.cls { name:=X,bases:=match b with | []=>[.type "object"] | _=>b,mro:=.ref (a + 2) :: mt,ns:=a + 1,qualname:=X,hasDict:=true,slotNames:=[],subclasses:=[],abstract:=false,collection:=none,hasDel:=false },slots:=#[match b with | []=>none | _=>some (.ref n),none,some (.str X (t - 2)),some (.str X (t + 6)),some (.builtin nw),some (.bool true)] }] ++
 (match kd with
  | 0=>[cls1 "getset_descriptor" [.str "__dict__" (sk + 1),.ref (a + 2),.builtin "function.__dict__",.builtin "function.__dict__#set"],gW (sk + 3) (a + 2)]
  | 1=>[gW (sk + 1) (a + 2)]
  | _=>[]) ++ [cls1 "super" [.ref (a + 2),.ref (a + 2),.ref (a + 2)],cls1 "builtin_function_or_method" [.builtin "object.__init_subclass__",.ref (a + 2)]]
noncomputable def runL(w:World)(os:OsState)(k:Nat)(T:Params→BT)(n t i m:Nat)(p:Pos) :=
 Fast.tw10110043849684766642 Fast.tw14364793385576792824 prog w 11 (some (.ref 6)) 1 k (sh w os (T w.params) n t) ⟨(Fast.tw12563942051412417395 ((prog.main.body.drop i).take m) benv).wrap doneF deadEnd id id,bc,p,[topFrame zpos]⟩
noncomputable abbrev RunG(w:World)(os:OsState)(k:Nat)(T:Params→BT)(n t i m:Nat)(p:Pos)(T':Params→BT)(n' t':Nat)(p':Pos):Prop :=
 runL w os k T n t i m p=some (.next,sh w os (T' w.params) n' t',bc,p')
noncomputable def v164:Value:=.str "__main__" 164
noncomputable def v194:Value:=.str "emacs.errors" 194
noncomputable def v271:Value:=.str "emacs.objects" 271
noncomputable def v529:Value:=.str "emacs.functions" 529
noncomputable def v683:Value:=.str "emacs.cells" 683
noncomputable def v819:Value:=.str "emacs.lambdalists" 819
noncomputable def v911:Value:=.str "emacs.variables" 911
noncomputable def v1141:Value:=.str "emacs.specpdl" 1141
noncomputable def v1206:Value:=.str "emacs.machine" 1206
noncomputable def v1742:Value:=.str "emacs.signals" 1742
noncomputable def v1788:Value:=.str "emacs.callers" 1788
noncomputable def v1972:Value:=.str "emacs.forms" 1972
noncomputable def v2448:Value:=.str "emacs.exits" 2448
noncomputable def v2692:Value:=.str "emacs.obarray" 2692
noncomputable def v2787:Value:=.str "emacs.world" 2787
noncomputable def v2854:Value:=.str "law_np0117_01" 2854
noncomputable def T1(P:Params):BT:=ops P (T0 P) [
 pr "_wall" 193 21,
 ap 1 20,
 .new 15 (fnO 0 15 187 1 ["k"] v164),
 .put 3 0 (.str "emacs.errors" 194),
 .psh 2 "type.__subclasses__.Exception.0" 223 (.int 38 0),
 .psh 2 "type.__subclasses__.Exception.n" 224 (.int 1 0),
 pr "LispSignal" 226 38,
 ap 5 27,
 .new 22 (clsO P 1 [.type "Exception"] [.type "Exception",.type "BaseException",.type "object"] 2 22 198 5 "LispSignal" v194 [(7,["self","symbol","data"])] ["data","symbol"])]
theorem run1(w:World)(os:OsState):RunG w os 269 T0 15 187 0 3 ⟨0,0,0,0⟩ T1 42 227 ⟨5,0,9,24⟩:=by kernel_rfl
noncomputable def T2(P:Params):BT:=ops P (T1 P) [
 .put 2 1 (.int 2 0),
 .psh 2 "type.__subclasses__.Exception.1" 252 (.int 58 0),
 pr "OutOfSteps" 255 58,
 ap 10 47,
 .new 42 (clsO P 1 [.type "Exception"] [.type "Exception",.type "BaseException",.type "object"] 3 42 229 10 "OutOfSteps" v194 [(12,["self","limit"])] ["limit"]),
 pr "standard_conditions" 263 68,
 ap 14 67,
 .new 62 (fnO 4 62 256 14 ["found","name"] v194),
 pr "conditions_of" 270 75,
 ap 25 74,
 .new 69 (fnO 5 69 264 25 ["name"] v194),
 .put 3 0 (.str "emacs.objects" 271)]
theorem run2(w:World)(os:OsState):RunG w os 297 T1 42 227 3 4 ⟨5,0,9,24⟩ T2 76 273 ⟨27,0,27,8⟩:=by kernel_rfl
noncomputable def T3(P:Params):BT:=ops P (T2 P) [
 pr "Symbol" 303 92,
 ap 28 81,
 .new 76 (clsO P 0 [] [.type "object"] 7 76 275 28 "Symbol" v271 [(30,["self","number","name"])] ["name","number"]),
 pr "NIL" 313 98,
 .new 97 ([dct P 2 [("number",310,.int 0 304),("name",312,.str "nil" 305)]] ++ [{ cls:=.ref 92,dict:=some 97 }] ++ [{ cls:=.type "frame",data:=(dct P 3 [("self",306,.ref 98),("number",307,.int 0 304),("name",308,.str "nil" 305)]).data }])]
theorem run3(w:World)(os:OsState):RunG w os 362 T2 76 273 7 2 ⟨27,0,27,8⟩ T3 100 314 ⟨33,0,33,3⟩:=by kernel_rfl
noncomputable def T4(P:Params):BT:=ops P (T3 P) [
 pr "T" 323 101,
 .new 100 ([dct P 2 [("number",320,.int 1 314),("name",322,.str "t" 315)]] ++ [{ cls:=.ref 92,dict:=some 100 }] ++ [{ cls:=.type "frame",data:=(dct P 3 [("self",316,.ref 101),("number",317,.int 1 314),("name",318,.str "t" 315)]).data }]),
 pr "Cons" 354 119,
 ap 35 108,
 .new 103 (clsO P 0 [] [.type "object"] 10 103 326 35 "Cons" v271 [(37,["self","car","cdr"])] ["car","cdr"])]
theorem run4(w:World)(os:OsState):RunG w os 362 T3 100 314 9 2 ⟨33,0,33,3⟩ T4 124 355 ⟨35,0,39,22⟩:=by kernel_rfl
noncomputable def T5(P:Params):BT:=ops P (T4 P) [
 pr "Text" 385 141,
 ap 40 129,
 .new 124 ([tp []] ++ oPr ++ [dct P 5 [("__module__",362,.str "emacs.objects" 271),("__qualname__",364,.str "Text" 363),("__firstlineno__",366,.int 40 365),("__init__",375,.ref 138),("__static_attributes__",378,.ref 139)]] ++ [tp []] ++ [fl [.int 42 0,.int 4 0,.ref 137]] ++ [cls1 "code" [.str "Text" 357,.str "Text" 358,fileV 359,.int 40 0,.int 0 0,.int 0 0,.int 0 0,.int 0 0,.ref 127,.bool false,.int 181 0,.ref 128,.none,.none,.none,.none,.int 360 0,.int 40 0,fileV 361]] ++ [{ cls:=.type "frame",slots:=#[some (.ref 129),some (.ref 3),some (.ref 126),none,some (.str "emacs.objects" 271),none,some (.ref 0)] }] ++ [tp [.none]] ++ fn7 (subSt (stm 11) 0) 132 367 42 "__init__" "Text.__init__" ["self","codes","spans"] [] (.ref 131) (.str "emacs.objects" 271) ++ [tp [.str "codes" 376,.str "spans" 377]] ++ [dct P 4 [("__module__",362,.str "emacs.objects" 271),("__firstlineno__",366,.int 40 365),("__init__",375,.ref 138),("__static_attributes__",378,.ref 139),("__dict__",380,.ref 142),("__weakref__",382,.ref 143),("__doc__",383,.none)]] ++ [{ cls:=.type "type",data:=.cls { name:= "Text",bases:=[.type "object"],mro:=[.ref 141,.type "object"],ns:=140,qualname:= "Text",hasDict:=true,slotNames:=[],subclasses:=[],abstract:=false,collection:=none,hasDel:=false },slots:=#[none,none,some (.str "Text" 355),some (.str "Text" 363),some (.builtin "object.__new__"),some (.bool true)] }] ++ [cls1 "getset_descriptor" [.str "__dict__" 379,.ref 141,.builtin "function.__dict__",.builtin "function.__dict__#set"]] ++ [cls1 "getset_descriptor" [.str "__weakref__" 381,.ref 141,.builtin "ExceptionGroup.__weakref__",.none]] ++ [cls1 "super" [.ref 141,.ref 141,.ref 141]] ++ [cls1 "builtin_function_or_method" [.builtin "object.__init_subclass__",.ref 141]])]
theorem run5(w:World)(os:OsState):RunG w os 226 T4 124 355 11 1 ⟨35,0,39,22⟩ T5 146 386 ⟨40,0,44,26⟩:=by kernel_rfl
noncomputable def T6(P:Params):BT:=ops P (T5 P) [
 pr "Vector" 414 162,
 ap 45 151,
 .new 146 (clsO P 0 [] [.type "object"] 12 146 388 45 "Vector" v271 [(47,["self","things"])] ["things"])]
theorem run6(w:World)(os:OsState):RunG w os 223 T5 146 386 12 1 ⟨40,0,44,26⟩ T6 167 415 ⟨45,0,48,28⟩:=by kernel_rfl
noncomputable def T7(P:Params):BT:=ops P (T6 P) [
 pr "Subr" 451 183,
 ap 49 172,
 .new 167 (clsO P 0 [] [.type "object"] 13 167 417 49 "Subr" v271 [(51,["self","number","name","least","most","deed"])] ["deed","least","most","name","number"])]
theorem run7(w:World)(os:OsState):RunG w os 231 T6 167 415 13 1 ⟨45,0,48,28⟩ T7 188 452 ⟨49,0,56,24⟩:=by kernel_rfl
noncomputable def T8(P:Params):BT:=ops P (T7 P) [
 pr "Opaque" 493 218,
 ap 57 193,
 .new 188 (clsO P 0 [] [.type "object"] 14 188 454 57 "Opaque" v271 [(59,["self"]),(62,["self"]),(65,["self","other"])] []),
 pr "list_of" 503 230,
 ap 67 229,
 .new 223 ([tp [.ref 98]] ++ fn7 (stm 15) 224 494 67 "list_of" "list_of" ["things","tail","found","place"] [] (.ref 223) (.str "emacs.objects" 271)),
 pr "split_list" 513 237,
 ap 72 236,
 .new 231 (fnO 16 231 504 72 ["datum","things","at","slow"] v271)]
theorem run8(w:World)(os:OsState):RunG w os 351 T7 188 452 14 3 ⟨49,0,56,24⟩ T8 238 514 ⟨72,0,83,23⟩:=by kernel_rfl
noncomputable def T9(P:Params):BT:=ops P (T8 P) [
 pr "items_of" 522 244,
 ap 84 243,
 .new 238 (fnO 17 238 514 84 ["datum","things","tail"] v271),
 pr "text_of" 528 249,
 ap 87 248,
 .new 245 (fn5 (stm 18) 245 523 87 "text_of" "text_of" (.none) (.str "emacs.objects" 271)),
 .put 3 0 (.str "emacs.functions" 529),
 .psh 3 "MANY" 533 (.int (-1) 532),
 pr "count_fits" 542 256,
 ap 91 255,
 .new 250 (fnO 21 250 534 91 ["many","least","most"] v529)]
theorem run9(w:World)(os:OsState):RunG w os 112 T8 238 514 17 5 ⟨72,0,83,23⟩ T9 257 543 ⟨91,0,92,59⟩:=by kernel_rfl
noncomputable def T10(P:Params):BT:=ops P (T9 P) [
 pr "Function" 581 287,
 ap 93 262,
 .sub 218 [.ref 287],
 .new 257 (clsO P 2 [.ref 218] [.ref 218,.type "object"] 22 257 545 93 "Function" v529 [(95,["self","machine","arguments"]),(98,["self"]),(101,["self"])] [])]
theorem run10(w:World)(os:OsState):RunG w os 308 T9 257 543 22 1 ⟨91,0,92,59⟩ T10 290 582 ⟨93,0,102,16⟩:=by kernel_rfl
noncomputable def T11(P:Params):BT:=ops P (T10 P) [
 pr "Caller" 628 320,
 ap 103 295,
 .sub 287 [.ref 320],
 .new 290 (clsO P 2 [.ref 287] [.ref 287,.ref 218,.type "object"] 23 290 584 103 "Caller" v529 [(105,["self","name","least","most","work"]),(111,["self"]),(114,["self","machine","arguments"])] ["least","most","name","work"])]
theorem run11(w:World)(os:OsState):RunG w os 330 T10 290 582 23 1 ⟨93,0,102,16⟩ T11 323 629 ⟨103,0,117,37⟩:=by kernel_rfl
noncomputable def T12(P:Params):BT:=ops P (T11 P) [
 pr "Special" 682 360,
 ap 118 328,
 .sub 218 [.ref 360],
 .new 323 (clsO P 2 [.ref 218] [.ref 218,.type "object"] 24 323 631 118 "Special" v529 [(120,["self","name","least","most","work"]),(126,["self"]),(129,["self"]),(132,["self","machine","forms"])] ["least","most","name","work"]),
 .put 3 0 (.str "emacs.cells" 683),
 .psh 3 "MOST_LINKS" 686 (.int 100 685),
 .psh 3 "MOST_PARTS" 688 (.int 100000 687)]
theorem run12(w:World)(os:OsState):RunG w os 374 T11 323 629 24 4 ⟨103,0,117,37⟩ T12 363 689 ⟨138,0,138,10⟩:=by kernel_rfl
noncomputable def T13(P:Params):BT:=ops P (T12 P) [
 pr "is_keyword" 695 369,
 ap 139 368,
 .new 363 (fnO 28 363 689 139 ["symbol"] v683),
 pr "is_constant" 702 376,
 ap 141 375,
 .new 370 (fnO 29 370 696 141 ["symbol"] v683)]
theorem run13(w:World)(os:OsState):RunG w os 59 T12 363 689 28 2 ⟨138,0,138,10⟩ T13 377 703 ⟨141,0,142,56⟩:=by kernel_rfl
noncomputable def T14(P:Params):BT:=ops P (T13 P) [
 pr "Cells" 818 456,
 ap 143 382,
 .new 377 (clsO P 0 [] [.type "object"] 30 377 705 143 "Cells" v683 [(145,["self"]),(149,["self","symbol"]),(152,["self","symbol"]),(155,["self","symbol","function","at","turn"]),(167,["self","datum","at"]),(173,["self","symbol"]),(176,["self","symbol","plist"]),(179,["self","symbol","name","at","steps"]),(191,["self","symbol","name","found"]),(195,["self","symbol","name","value","found","fresh","last"])] ["functions","plists"])]
theorem run14(w:World)(os:OsState):RunG w os 526 T13 377 703 30 1 ⟨141,0,142,56⟩ T14 461 819 ⟨143,0,207,24⟩:=by kernel_rfl
noncomputable def T15(P:Params):BT:=ops P (T14 P) [
 .put 3 0 (.str "emacs.lambdalists" 819),
 .psh 3 "OPTIONAL" 822 (.str "&optional" 821),
 .psh 3 "REST" 824 (.str "&rest" 823),
 pr "LambdaList" 874 491,
 ap 211 466,
 .new 461 (clsO P 0 [] [.type "object"] 34 461 827 211 "LambdaList" v819 [(213,["self","needed","optional","rest"]),(218,["self","many","most"]),(222,["self","most"])] ["needed","optional","rest"]),
 pr "bad_function" 881 502,
 ap 225 501,
 .new 496 (fnO 35 496 875 225 ["function"] v819),
 pr "read_lambda_list" 887 507,
 ap 227 506,
 .new 503 (fn5 (stm 36) 503 882 227 "read_lambda_list" "read_lambda_list" (.none) (.str "emacs.lambdalists" 819))]
theorem run15(w:World)(os:OsState):RunG w os 374 T14 461 819 31 6 ⟨143,0,207,24⟩ T15 508 888 ⟨227,0,247,45⟩:=by kernel_rfl
noncomputable def T16(P:Params):BT:=ops P (T15 P) [
 pr "values_for" 898 514,
 ap 248 513,
 .new 508 (fnO 37 508 888 248 ["told","arguments","pairs","place","symbol"] v819),
 pr "bind_parameters" 910 521,
 ap 255 520,
 .new 515 (fnO 38 515 899 255 ["stack","told","arguments","function","symbol","value"] v819),
 .put 3 0 (.str "emacs.variables" 911),
 .psh 3 "VOID" 913 (.none),
 .psh 3 "LOCAL" 915 (.int 0 914),
 .psh 3 "DEFAULT" 917 (.int 1 916)]
theorem run16(w:World)(os:OsState):RunG w os 103 T15 508 888 37 6 ⟨227,0,247,45⟩ T16 522 918 ⟨263,0,263,7⟩:=by kernel_rfl
noncomputable def T17(P:Params):BT:=ops P (T16 P) [
 pr "Variables" 998 580,
 ap 264 527,
 .new 522 (clsO P 0 [] [.type "object"] 43 522 920 264 "Variables" v911 [(266,["self"]),(271,["self","symbol"]),(274,["self","symbol","value"]),(277,["self","symbol","value"]),(280,["self","symbol","flag"]),(283,["self","symbol"]),(286,["self","symbol"])] ["automatic","defaults","permanent"])]
theorem run17(w:World)(os:OsState):RunG w os 419 T16 522 918 43 1 ⟨263,0,263,7⟩ T17 585 999 ⟨264,0,287,17⟩:=by kernel_rfl
noncomputable def T18(P:Params):BT:=ops P (T17 P) [
 pr "Locals" 1066 636,
 ap 288 590,
 .new 585 (clsO P 0 [] [.type "object"] 44 585 1001 288 "Locals" v911 [(290,["self"]),(293,["self","symbol"]),(296,["self"]),(299,["self","variables","symbol"]),(302,["self","symbol"]),(305,["self","variables"])] ["values"])]
theorem run18(w:World)(os:OsState):RunG w os 382 T17 585 999 44 1 ⟨264,0,287,17⟩ T18 641 1067 ⟨288,0,306,17⟩:=by kernel_rfl
noncomputable def T19(P:Params):BT:=ops P (T18 P) [
 pr "value_in" 1075 647,
 ap 307 646,
 .new 641 (fnO 45 641 1067 307 ["variables","own","symbol"] v911),
 pr "set_in" 1085 654,
 ap 311 653,
 .new 648 (fnO 46 648 1076 311 ["variables","own","symbol","value"] v911),
 pr "Bound" 1120 671,
 ap 316 660,
 .new 655 (clsO P 0 [] [.type "object"] 47 655 1088 316 "Bound" v911 [(318,["self","sort","own","symbol","value"])] ["own","sort","symbol","value"]),
 pr "bind" 1131 682,
 ap 323 681,
 .new 676 (fnO 48 676 1121 323 ["variables","own","symbol","value","bound"] v911),
 pr "bind_variables" 1132 682,
 pr "unbind" 1140 689,
 ap 332 688,
 .new 683 (fnO 50 683 1133 332 ["variables","bound"] v911),
 .put 3 0 (.str "emacs.specpdl" 1141)]
theorem run19(w:World)(os:OsState):RunG w os 374 T18 641 1067 45 7 ⟨288,0,306,17⟩ T19 690 1143 ⟨337,0,337,8⟩:=by kernel_rfl
noncomputable def T20(P:Params):BT:=ops P (T19 P) [
 pr "BindingStack" 1205 734,
 ap 338 695,
 .new 690 (clsO P 0 [] [.type "object"] 52 690 1145 338 "BindingStack" v1141 [(340,["self","world"]),(344,["self"]),(347,["self","symbol","value"]),(352,["self","cleanup"]),(355,["self","depth","row"])] ["rows","world"]),
 .put 3 0 (.str "emacs.machine" 1206),
 .psh 3 "THROW" 1209 (.str "throw" 1208),
 .psh 3 "SIGNAL" 1211 (.str "signal" 1210)]
theorem run20(w:World)(os:OsState):RunG w os 380 T19 690 1143 52 4 ⟨337,0,337,8⟩ T20 739 1212 ⟨364,0,364,6⟩:=by kernel_rfl
noncomputable def T21(P:Params):BT:=ops P (T20 P) [
 .put 2 1 (.int 3 0),
 .psh 2 "type.__subclasses__.Exception.2" 1239 (.int 755 0),
 pr "Thrown" 1242 755,
 ap 365 744,
 .new 739 (clsO P 1 [.type "Exception"] [.type "Exception",.type "BaseException",.type "object"] 56 739 1214 365 "Thrown" v1206 [(367,["self","tag","value"])] ["tag","value"])]
theorem run21(w:World)(os:OsState):RunG w os 231 T20 739 1212 56 1 ⟨364,0,364,6⟩ T21 759 1243 ⟨365,0,369,26⟩:=by kernel_rfl
noncomputable def T22(P:Params):BT:=ops P (T21 P) [
 pr "Frame" 1288 789,
 ap 370 764,
 .new 759 (clsO P 0 [] [.type "object"] 57 759 1245 370 "Frame" v1206 [(372,["self","machine"]),(375,["self","machine","leaving"]),(378,["self","machine","leaving"])] [])]
theorem run22(w:World)(os:OsState):RunG w os 288 T21 759 1243 57 1 ⟨365,0,369,26⟩ T22 794 1289 ⟨370,0,379,20⟩:=by kernel_rfl
noncomputable def T23(P:Params):BT:=ops P (T22 P) [
 pr "StartFrame" 1321 817,
 ap 380 799,
 .sub 789 [.ref 817],
 .new 794 (clsO P 2 [.ref 789] [.ref 789,.type "object"] 58 794 1291 380 "StartFrame" v1206 [(382,["self","form"]),(385,["self","machine"])] ["form"])]
theorem run23(w:World)(os:OsState):RunG w os 278 T22 794 1289 58 1 ⟨370,0,379,20⟩ T23 820 1322 ⟨380,0,387,31⟩:=by kernel_rfl
noncomputable def T24(P:Params):BT:=ops P (T23 P) [
 pr "CallFrame" 1356 843,
 ap 388 825,
 .sub 789 [.ref 843],
 .new 820 (clsO P 2 [.ref 789] [.ref 789,.type "object"] 59 820 1324 388 "CallFrame" v1206 [(390,["self","function","arguments"]),(394,["self","machine"])] ["arguments","function"])]
theorem run24(w:World)(os:OsState):RunG w os 280 T23 820 1322 59 1 ⟨380,0,387,31⟩ T24 846 1357 ⟨388,0,396,52⟩:=by kernel_rfl
noncomputable def T25(P:Params):BT:=ops P (T24 P) [
 pr "ArgumentsFrame" 1393 869,
 ap 397 851,
 .sub 789 [.ref 869],
 .new 846 (clsO P 2 [.ref 789] [.ref 789,.type "object"] 60 846 1359 397 "ArgumentsFrame" v1206 [(399,["self","head","forms"]),(405,["self","machine"])] ["forms","found","head","is_waiting"])]
theorem run25(w:World)(os:OsState):RunG w os 282 T24 846 1357 60 1 ⟨388,0,396,52⟩ T25 872 1394 ⟨397,0,413,48⟩:=by kernel_rfl
noncomputable def T26(P:Params):BT:=ops P (T25 P) [
 pr "SequenceFrame" 1428 895,
 ap 414 877,
 .sub 789 [.ref 895],
 .new 872 (clsO P 2 [.ref 789] [.ref 789,.type "object"] 61 872 1396 414 "SequenceFrame" v1206 [(416,["self","forms"]),(420,["self","machine","form"])] ["forms","place"])]
theorem run26(w:World)(os:OsState):RunG w os 280 T25 872 1394 61 1 ⟨397,0,413,48⟩ T26 898 1429 ⟨414,0,425,26⟩:=by kernel_rfl
noncomputable def T27(P:Params):BT:=ops P (T26 P) [
 pr "BodyFrame" 1474 928,
 ap 426 903,
 .sub 789 [.ref 928],
 .new 898 (clsO P 2 [.ref 789] [.ref 789,.type "object"] 62 898 1431 426 "BodyFrame" v1206 [(428,["self","forms","depth"]),(433,["self","machine","value"]),(442,["self","machine","leaving"])] ["depth","forms","place"])]
theorem run27(w:World)(os:OsState):RunG w os 315 T26 898 1429 62 1 ⟨414,0,425,26⟩ T27 931 1475 ⟨426,0,444,20⟩:=by kernel_rfl
noncomputable def T28(P:Params):BT:=ops P (T27 P) [
 pr "ExpandFrame" 1498 947,
 ap 445 936,
 .sub 789 [.ref 947],
 .new 931 (clsO P 2 [.ref 789] [.ref 789,.type "object"] 63 931 1477 445 "ExpandFrame" v1206 [(447,["self","machine"])] []),
 pr "begins_with" 1506 956,
 ap 450 955,
 .new 950 (fnO 64 950 1499 450 ["datum","name"] v1206),
 pr "is_same" 1514 963,
 ap 452 962,
 .new 957 (fnO 65 957 1507 452 ["one","other"] v1206)]
theorem run28(w:World)(os:OsState):RunG w os 305 T27 931 1475 63 3 ⟨426,0,444,20⟩ T28 964 1515 ⟨452,0,453,95⟩:=by kernel_rfl
noncomputable def T29(P:Params):BT:=ops P (T28 P) [
 pr "Machine" 1741 1132,
 ap 454 969,
 .new 964 ([tp []] ++ oPr ++ [dct P 27 (List.append [("__module__",1522,.str "emacs.machine" 1206),("__qualname__",1524,.str "Machine" 1523),("__firstlineno__",1526,.int 454 1525),("__init__",1535,.ref 977),("tell",1543,.ref 984),("push",1551,.ref 991),("pop",1558,.ref 998),("done",1566,.ref 1005),("refuse_count",1575,.ref 1012),("value_of",1584,.ref 1019),("set_value",1593,.ref 1026),("look",1601,.ref 1033),("forms_of",1610,.ref 1040),("look_at_call",1620,.ref 1047),("expanded",1629,.ref 1054),("function_of",1638,.ref 1061),("apply",1648,.ref 1068),("enter",1659,.ref 1075),("leave",1667,.ref 1082),("throw",1673,.ref 1087)] [("signal",1682,.ref 1094),("step",1691,.ref 1101),("run",1702,.ref 1108),("eval",1710,.ref 1115),("call",1719,.ref 1122),("reset",1726,.ref 1129),("__static_attributes__",1734,.ref 1130)])] ++ [tp []] ++ [fl (List.append [.int 456 0,.int 4 0,.ref 976,.int 466 0,.int 4 0,.ref 983,.int 469 0,.int 4 0,.ref 990,.int 472 0,.int 4 0,.ref 997,.int 475 0,.int 4 0,.ref 1004,.int 479 0,.int 4 0,.ref 1011,.int 482 0,.int 4 0] (List.append [.ref 1018,.int 490 0,.int 4 0,.ref 1025,.int 495 0,.int 4 0,.ref 1032,.int 503 0,.int 4 0,.ref 1039,.int 509 0,.int 4 0,.ref 1046,.int 519 0,.int 4 0,.ref 1053,.int 525 0,.int 4 0,.ref 1060,.int 533 0] (List.append [.int 4 0,.ref 1067,.int 546 0,.int 4 0,.ref 1074,.int 554 0,.int 4 0,.ref 1081,.int 563 0,.int 4 0,.ref 1086,.int 569 0,.int 4 0,.ref 1093,.int 572 0,.int 4 0,.ref 1100,.int 583 0,.int 4 0,.ref 1107] [.int 596 0,.int 4 0,.ref 1114,.int 599 0,.int 4 0,.ref 1121,.int 602 0,.int 4 0,.ref 1128])))] ++ [cls1 "code" [.str "Machine" 1517,.str "Machine" 1518,fileV 1519,.int 454 0,.int 0 0,.int 0 0,.int 0 0,.int 0 0,.ref 967,.bool false,.int 181 0,.ref 968,.none,.none,.none,.none,.int 1520 0,.int 454 0,fileV 1521]] ++ [{ cls:=.type "frame",slots:=#[some (.ref 969),some (.ref 3),some (.ref 966),none,some (.str "emacs.machine" 1206),none,some (.ref 0)] }] ++ fn7 (subSt (stm 66) 0) 971 1527 456 "__init__" "Machine.__init__" ["self","world","limit"] [] (.none) (.str "emacs.machine" 1206) ++ fn7 (subSt (stm 66) 1) 978 1536 466 "tell" "Machine.tell" ["self","value"] [] (.none) (.str "emacs.machine" 1206) ++ fn7 (subSt (stm 66) 2) 985 1544 469 "push" "Machine.push" ["self","frame"] [] (.none) (.str "emacs.machine" 1206) ++ fn7 (subSt (stm 66) 3) 992 1552 472 "pop" "Machine.pop" ["self"] [] (.none) (.str "emacs.machine" 1206) ++ fn7 (subSt (stm 66) 4) 999 1559 475 "done" "Machine.done" ["self","value"] [] (.none) (.str "emacs.machine" 1206) ++ fn7 (subSt (stm 66) 5) 1006 1567 479 "refuse_count" "Machine.refuse_count" ["self","function","many"] [] (.none) (.str "emacs.machine" 1206) ++ fn7 (subSt (stm 66) 6) 1013 1576 482 "value_of" "Machine.value_of" ["self","symbol","found"] [] (.none) (.str "emacs.machine" 1206) ++ fn7 (subSt (stm 66) 7) 1020 1585 490 "set_value" "Machine.set_value" ["self","symbol","value"] [] (.none) (.str "emacs.machine" 1206) ++ fn7 (subSt (stm 66) 8) 1027 1594 495 "look" "Machine.look" ["self","form"] [] (.none) (.str "emacs.machine" 1206) ++ fn7 (subSt (stm 66) 9) 1034 1602 503 "forms_of" "Machine.forms_of" ["self","datum","found"] [] (.none) (.str "emacs.machine" 1206) ++ fn7 (subSt (stm 66) 10) 1041 1611 509 "look_at_call" "Machine.look_at_call" ["self","head","forms","function"] [] (.none) (.str "emacs.machine" 1206) ++ fn7 (subSt (stm 66) 11) 1048 1621 519 "expanded" "Machine.expanded" ["self","form","function"] [] (.none) (.str "emacs.machine" 1206) ++ fn7 (subSt (stm 66) 12) 1055 1630 525 "function_of" "Machine.function_of" ["self","datum","found"] [] (.none) (.str "emacs.machine" 1206) ++ fn7 (subSt (stm 66) 13) 1062 1639 533 "apply" "Machine.apply" ["self","datum","arguments","function"] [] (.none) (.str "emacs.machine" 1206) ++ fn7 (subSt (stm 66) 14) 1069 1649 546 "enter" "Machine.enter" ["self","function","arguments","parts","depth"] [] (.none) (.str "emacs.machine" 1206) ++ fn7 (subSt (stm 66) 15) 1076 1660 554 "leave" "Machine.leave" ["self","leaving"] [] (.none) (.str "emacs.machine" 1206) ++ fn5 (subSt (stm 66) 16) 1083 1668 563 "throw" "Machine.throw" (.none) (.str "emacs.machine" 1206) ++ fn7 (subSt (stm 66) 17) 1088 1674 569 "signal" "Machine.signal" ["self","name","data"] [] (.none) (.str "emacs.machine" 1206) ++ fn7 (subSt (stm 66) 18) 1095 1683 572 "step" "Machine.step" ["self","error","thrown"] [] (.none) (.str "emacs.machine" 1206) ++ fn7 (subSt (stm 66) 19) 1102 1692 583 "run" "Machine.run" ["self","frame","floor","depth","mark"] [] (.none) (.str "emacs.machine" 1206) ++ fn7 (subSt (stm 66) 20) 1109 1703 596 "eval" "Machine.eval" ["self","form"] [] (.none) (.str "emacs.machine" 1206) ++ fn7 (subSt (stm 66) 21) 1116 1711 599 "call" "Machine.call" ["self","function","arguments"] [] (.none) (.str "emacs.machine" 1206) ++ fn7 (subSt (stm 66) 22) 1123 1720 602 "reset" "Machine.reset" ["self"] [] (.none) (.str "emacs.machine" 1206) ++ [tp [.str "floor" 1727,.str "frames" 1728,.str "limit" 1729,.str "stack" 1730,.str "steps" 1731,.str "value" 1732,.str "world" 1733]] ++ [dct P 4 (List.append [("__module__",1522,.str "emacs.machine" 1206),("__firstlineno__",1526,.int 454 1525),("__init__",1535,.ref 977),("tell",1543,.ref 984),("push",1551,.ref 991),("pop",1558,.ref 998),("done",1566,.ref 1005),("refuse_count",1575,.ref 1012),("value_of",1584,.ref 1019),("set_value",1593,.ref 1026),("look",1601,.ref 1033),("forms_of",1610,.ref 1040),("look_at_call",1620,.ref 1047),("expanded",1629,.ref 1054),("function_of",1638,.ref 1061),("apply",1648,.ref 1068),("enter",1659,.ref 1075),("leave",1667,.ref 1082),("throw",1673,.ref 1087),("signal",1682,.ref 1094)] [("step",1691,.ref 1101),("run",1702,.ref 1108),("eval",1710,.ref 1115),("call",1719,.ref 1122),("reset",1726,.ref 1129),("__static_attributes__",1734,.ref 1130),("__dict__",1736,.ref 1133),("__weakref__",1738,.ref 1134),("__doc__",1739,.none)])] ++ [{ cls:=.type "type",data:=.cls { name:= "Machine",bases:=[.type "object"],mro:=[.ref 1132,.type "object"],ns:=1131,qualname:= "Machine",hasDict:=true,slotNames:=[],subclasses:=[],abstract:=false,collection:=none,hasDel:=false },slots:=#[none,none,some (.str "Machine" 1515),some (.str "Machine" 1523),some (.builtin "object.__new__"),some (.bool true)] }] ++ [cls1 "getset_descriptor" [.str "__dict__" 1735,.ref 1132,.builtin "function.__dict__",.builtin "function.__dict__#set"]] ++ [cls1 "getset_descriptor" [.str "__weakref__" 1737,.ref 1132,.builtin "ExceptionGroup.__weakref__",.none]] ++ [cls1 "super" [.ref 1132,.ref 1132,.ref 1132]] ++ [cls1 "builtin_function_or_method" [.builtin "object.__init_subclass__",.ref 1132]])]
theorem run29(w:World)(os:OsState):RunG w os 947 T28 964 1515 66 1 ⟨452,0,453,95⟩ T29 1137 1742 ⟨454,0,603,17⟩:=by kernel_rfl
noncomputable def T30(P:Params):BT:=ops P (T29 P) [
 .put 3 0 (.str "emacs.signals" 1742),
 .psh 3 "CONDITIONS" 1745 (.str "error-conditions" 1744),
 pr "conditions" 1751 1141,
 ap 606 1140,
 .new 1137 (fn5 (stm 69) 1137 1746 606 "conditions" "conditions" (.none) (.str "emacs.signals" 1742)),
 pr "takes_name" 1760 1148,
 ap 612 1147,
 .new 1142 (fnO 70 1142 1752 612 ["world","wanted","name"] v1742),
 pr "is_handled" 1766 1153,
 ap 614 1152,
 .new 1149 (fn5 (stm 71) 1149 1761 614 "is_handled" "is_handled" (.none) (.str "emacs.signals" 1742)),
 pr "datum_of" 1773 1160,
 ap 619 1159,
 .new 1154 (fnO 72 1154 1767 619 ["part"] v1742),
 pr "error_object" 1779 1165,
 ap 623 1164,
 .new 1161 (fn5 (stm 73) 1161 1774 623 "error_object" "error_object" (.none) (.str "emacs.signals" 1742)),
 pr "data_of" 1787 1172,
 ap 625 1171,
 .new 1166 (fnO 74 1166 1780 625 ["datum","found"] v1742),
 .put 3 0 (.str "emacs.callers" 1788),
 pr "funcall" 1797 1179,
 ap 629 1178,
 .new 1173 (fnO 76 1173 1790 629 ["machine","arguments"] v1788),
 pr "need_list" 1806 1186,
 ap 631 1185,
 .new 1180 (fnO 77 1180 1798 631 ["machine","datum","found"] v1788),
 pr "apply_to" 1814 1193,
 ap 636 1192,
 .new 1187 (fnO 78 1187 1807 636 ["machine","arguments"] v1788),
 pr "form_value" 1822 1200,
 ap 642 1199,
 .new 1194 (fnO 79 1194 1815 642 ["machine","arguments"] v1788),
 pr "throw" 1830 1207,
 ap 644 1206,
 .new 1201 (fnO 80 1201 1823 644 ["machine","arguments"] v1788),
 pr "signal" 1840 1214,
 ap 646 1213,
 .new 1208 (fnO 81 1208 1831 646 ["machine","arguments","symbol","data"] v1788)]
theorem run30(w:World)(os:OsState):RunG w os 379 T29 1137 1742 67 15 ⟨454,0,603,17⟩ T30 1215 1841 ⟨646,0,652,46⟩:=by kernel_rfl
noncomputable def T31(P:Params):BT:=ops P (T30 P) [
 pr "sequence_items" 1849 1221,
 ap 653 1220,
 .new 1215 (fnO 82 1215 1841 653 ["machine","datum","found"] v1788),
 pr "MapFrame" 1888 1245,
 ap 662 1227,
 .sub 789 [.ref 1245],
 .new 1222 (clsO P 2 [.ref 789] [.ref 789,.type "object"] 83 1222 1852 662 "MapFrame" v1788 [(664,["self","function","items","result"]),(671,["self","machine"])] ["found","function","is_waiting","items","result"]),
 pr "mapcar" 1896 1254,
 ap 679 1253,
 .new 1248 (fnO 84 1248 1889 679 ["machine","arguments"] v1788),
 pr "mapc" 1904 1261,
 ap 681 1260,
 .new 1255 (fnO 85 1255 1897 681 ["machine","arguments"] v1788)]
theorem run31(w:World)(os:OsState):RunG w os 375 T30 1215 1841 82 4 ⟨646,0,652,46⟩ T31 1262 1905 ⟨681,0,682,93⟩:=by kernel_rfl
noncomputable def T32(P:Params):BT:=ops P (T31 P) [
 pr "ExpansionFrame" 1940 1285,
 ap 683 1267,
 .sub 789 [.ref 1285],
 .new 1262 (clsO P 2 [.ref 789] [.ref 789,.type "object"] 86 1262 1907 683 "ExpansionFrame" v1788 [(685,["self","form","is_once"]),(689,["self","machine","form"])] ["form","is_once"]),
 pr "begin_expansion" 1949 1294,
 ap 696 1293,
 .new 1288 (fnO 87 1288 1941 696 ["machine","form","function"] v1788),
 pr "macroexpand" 1957 1301,
 ap 704 1300,
 .new 1295 (fnO 88 1295 1950 704 ["machine","arguments"] v1788),
 pr "macroexpand_once" 1965 1308,
 ap 707 1307,
 .new 1302 (fnO 89 1302 1958 707 ["machine","arguments"] v1788)]
theorem run32(w:World)(os:OsState):RunG w os 372 T31 1262 1905 86 4 ⟨681,0,682,93⟩ T32 1309 1966 ⟨707,0,709,42⟩:=by kernel_rfl
noncomputable def T33(P:Params):BT:=ops P (T32 P) [
 pr "calling_functions" 1971 1313,
 ap 710 1312,
 .new 1309 (fn5 (stm 90) 1309 1966 710 "calling_functions" "calling_functions" (.none) (.str "emacs.callers" 1788)),
 .put 3 0 (.str "emacs.forms" 1972),
 pr "need_symbol" 1981 1320,
 ap 714 1319,
 .new 1314 (fnO 92 1314 1974 714 ["machine","datum"] v1972),
 pr "progn" 1989 1327,
 ap 717 1326,
 .new 1321 (fnO 93 1321 1982 717 ["machine","forms"] v1972),
 pr "quote" 1997 1334,
 ap 724 1333,
 .new 1328 (fnO 94 1328 1990 724 ["machine","forms"] v1972)]
theorem run33(w:World)(os:OsState):RunG w os 126 T32 1309 1966 90 5 ⟨707,0,709,42⟩ T33 1335 1998 ⟨724,0,725,26⟩:=by kernel_rfl
noncomputable def T34(P:Params):BT:=ops P (T33 P) [
 pr "IfFrame" 2032 1358,
 ap 726 1340,
 .sub 789 [.ref 1358],
 .new 1335 (clsO P 2 [.ref 789] [.ref 789,.type "object"] 95 1335 2000 726 "IfFrame" v1972 [(728,["self","yes","no"]),(732,["self","machine"])] ["no","yes"]),
 pr "if_form" 2040 1367,
 ap 735 1366,
 .new 1361 (fnO 96 1361 2033 735 ["machine","forms"] v1972),
 pr "when_form" 2048 1374,
 ap 738 1373,
 .new 1368 (fnO 97 1368 2041 738 ["machine","forms"] v1972),
 pr "unless_form" 2056 1381,
 ap 741 1380,
 .new 1375 (fnO 98 1375 2049 741 ["machine","forms"] v1972)]
theorem run34(w:World)(os:OsState):RunG w os 370 T33 1335 1998 95 4 ⟨724,0,725,26⟩ T34 1382 2057 ⟨741,0,743,26⟩:=by kernel_rfl
noncomputable def T35(P:Params):BT:=ops P (T34 P) [
 pr "CondFrame" 2091 1405,
 ap 744 1387,
 .sub 789 [.ref 1405],
 .new 1382 (clsO P 2 [.ref 789] [.ref 789,.type "object"] 99 1382 2059 744 "CondFrame" v1972 [(746,["self","body","clauses"]),(750,["self","machine"])] ["body","clauses"]),
 pr "cond" 2101 1414,
 ap 756 1413,
 .new 1408 (fnO 100 1408 2092 756 ["machine","clauses","place","clause"] v1972)]
theorem run35(w:World)(os:OsState):RunG w os 312 T34 1382 2057 99 2 ⟨741,0,743,26⟩ T35 1415 2102 ⟨756,0,763,21⟩:=by kernel_rfl
noncomputable def T36(P:Params):BT:=ops P (T35 P) [
 pr "JoinFrame" 2138 1438,
 ap 764 1420,
 .sub 789 [.ref 1438],
 .new 1415 (clsO P 2 [.ref 789] [.ref 789,.type "object"] 101 1415 2104 764 "JoinFrame" v1972 [(766,["self","forms","ends_by_nil"]),(771,["self","machine","form"])] ["ends_by_nil","forms","place"]),
 pr "join" 2147 1447,
 ap 780 1446,
 .new 1441 (fnO 102 1441 2139 780 ["machine","forms","ends_by_nil"] v1972),
 pr "and_form" 2155 1454,
 ap 784 1453,
 .new 1448 (fnO 103 1448 2148 784 ["machine","forms"] v1972),
 pr "or_form" 2163 1461,
 ap 789 1460,
 .new 1455 (fnO 104 1455 2156 789 ["machine","forms"] v1972)]
theorem run36(w:World)(os:OsState):RunG w os 373 T35 1415 2102 101 4 ⟨756,0,763,21⟩ T36 1462 2164 ⟨789,0,793,35⟩:=by kernel_rfl
noncomputable def T37(P:Params):BT:=ops P (T36 P) [
 pr "WhileFrame" 2199 1485,
 ap 794 1467,
 .sub 789 [.ref 1485],
 .new 1462 (clsO P 2 [.ref 789] [.ref 789,.type "object"] 105 1462 2166 794 "WhileFrame" v1972 [(796,["self","test","body"]),(801,["self","machine"])] ["body","is_testing","test"]),
 pr "while_form" 2207 1494,
 ap 810 1493,
 .new 1488 (fnO 106 1488 2200 810 ["machine","forms"] v1972)]
theorem run37(w:World)(os:OsState):RunG w os 311 T36 1462 2164 105 2 ⟨789,0,793,35⟩ T37 1495 2208 ⟨810,0,812,26⟩:=by kernel_rfl
noncomputable def T38(P:Params):BT:=ops P (T37 P) [
 pr "Prog1Frame" 2242 1518,
 ap 813 1500,
 .sub 789 [.ref 1518],
 .new 1495 (clsO P 2 [.ref 789] [.ref 789,.type "object"] 107 1495 2210 813 "Prog1Frame" v1972 [(815,["self","forms"]),(820,["self","machine"])] ["forms","kept","place"]),
 pr "prog1" 2250 1527,
 ap 828 1526,
 .new 1521 (fnO 108 1521 2243 828 ["machine","forms"] v1972)]
theorem run38(w:World)(os:OsState):RunG w os 310 T37 1495 2208 107 2 ⟨810,0,812,26⟩ T38 1528 2251 ⟨828,0,831,26⟩:=by kernel_rfl
noncomputable def T39(P:Params):BT:=ops P (T38 P) [
 pr "SetFrame" 2287 1551,
 ap 832 1533,
 .sub 789 [.ref 1551],
 .new 1528 (clsO P 2 [.ref 789] [.ref 789,.type "object"] 109 1528 2253 832 "SetFrame" v1972 [(834,["self","forms","is_default"]),(839,["self","machine","symbol"])] ["forms","is_default","place"]),
 pr "set_default" 2296 1560,
 ap 851 1559,
 .new 1554 (fnO 110 1554 2288 851 ["machine","symbol","value"] v1972),
 pr "set_pairs" 2306 1567,
 ap 855 1566,
 .new 1561 (fnO 111 1561 2297 855 ["machine","forms","name","is_default"] v1972),
 pr "setq" 2314 1574,
 ap 864 1573,
 .new 1568 (fnO 112 1568 2307 864 ["machine","forms"] v1972)]
theorem run39(w:World)(os:OsState):RunG w os 375 T38 1528 2251 109 4 ⟨828,0,831,26⟩ T39 1575 2315 ⟨864,0,865,44⟩:=by kernel_rfl
noncomputable def T40(P:Params):BT:=ops P (T39 P) [
 pr "setq_default" 2322 1581,
 ap 866 1580,
 .new 1575 (fnO 113 1575 2315 866 ["machine","forms"] v1972),
 pr "read_bindings" 2333 1588,
 ap 868 1587,
 .new 1582 (fnO 114 1582 2323 868 ["machine","datum","found","item","parts"] v1972),
 pr "LetFrame" 2372 1612,
 ap 877 1594,
 .sub 789 [.ref 1612],
 .new 1589 (clsO P 2 [.ref 789] [.ref 789,.type "object"] 115 1589 2336 877 "LetFrame" v1972 [(879,["self","pairs","body"]),(885,["self","machine","depth","place"])] ["body","is_waiting","pairs","values"]),
 pr "let" 2380 1621,
 ap 897 1620,
 .new 1615 (fnO 116 1615 2373 897 ["machine","forms"] v1972)]
theorem run40(w:World)(os:OsState):RunG w os 377 T39 1575 2315 113 4 ⟨864,0,865,44⟩ T40 1622 2381 ⟨897,0,898,71⟩:=by kernel_rfl
noncomputable def T41(P:Params):BT:=ops P (T40 P) [
 pr "LetStarFrame" 2427 1652,
 ap 899 1627,
 .sub 789 [.ref 1652],
 .new 1622 (clsO P 2 [.ref 789] [.ref 789,.type "object"] 117 1622 2383 899 "LetStarFrame" v1972 [(901,["self","pairs","body","depth"]),(907,["self","machine"]),(917,["self","machine","leaving"])] ["body","depth","pairs","place"]),
 pr "let_star" 2435 1661,
 ap 920 1660,
 .new 1655 (fnO 118 1655 2428 920 ["machine","forms"] v1972),
 pr "choosing_forms" 2441 1666,
 ap 922 1665,
 .new 1662 (fn5 (stm 119) 1662 2436 922 "choosing_forms" "choosing_forms" (.none) (.str "emacs.forms" 1972))]
theorem run41(w:World)(os:OsState):RunG w os 372 T40 1622 2381 117 3 ⟨897,0,898,71⟩ T41 1667 2442 ⟨922,0,924,81⟩:=by kernel_rfl
noncomputable def T42(P:Params):BT:=ops P (T41 P) [
 pr "binding_forms" 2447 1671,
 ap 925 1670,
 .new 1667 (fn5 (stm 120) 1667 2442 925 "binding_forms" "binding_forms" (.none) (.str "emacs.forms" 1972)),
 .put 3 0 (.str "emacs.exits" 2448)]
theorem run42(w:World)(os:OsState):RunG w os 36 T41 1667 2442 120 2 ⟨922,0,924,81⟩ T42 1672 2450 ⟨928,0,928,8⟩:=by kernel_rfl
noncomputable def T43(P:Params):BT:=ops P (T42 P) [
 pr "CatchFrame" 2503 1709,
 ap 929 1677,
 .sub 789 [.ref 1709],
 .new 1672 (clsO P 2 [.ref 789] [.ref 789,.type "object"] 122 1672 2452 929 "CatchFrame" v2448 [(931,["self","body","depth"]),(936,["self","machine"]),(943,["self","machine","leaving"]),(946,["self","machine","leaving"])] ["body","depth","tag"]),
 pr "catch" 2511 1718,
 ap 952 1717,
 .new 1712 (fnO 123 1712 2504 952 ["machine","forms"] v2448)]
theorem run43(w:World)(os:OsState):RunG w os 377 T42 1672 2450 122 2 ⟨928,0,928,8⟩ T43 1719 2512 ⟨952,0,954,26⟩:=by kernel_rfl
noncomputable def T44(P:Params):BT:=ops P (T43 P) [
 pr "UnwindFrame" 2558 1749,
 ap 955 1724,
 .sub 789 [.ref 1749],
 .new 1719 (clsO P 2 [.ref 789] [.ref 789,.type "object"] 124 1719 2514 955 "UnwindFrame" v2448 [(957,["self","cleanup","depth"]),(964,["self","machine"]),(975,["self","machine","leaving"])] ["cleanup","depth","is_cleaning","kept","leaving"]),
 pr "unwind_protect" 2566 1758,
 ap 984 1757,
 .new 1752 (fnO 125 1752 2559 984 ["machine","forms"] v2448)]
theorem run44(w:World)(os:OsState):RunG w os 346 T43 1719 2512 124 2 ⟨952,0,954,26⟩ T44 1759 2567 ⟨984,0,986,26⟩:=by kernel_rfl
noncomputable def T45(P:Params):BT:=ops P (T44 P) [
 pr "HandlerFrame" 2618 1789,
 ap 987 1764,
 .sub 789 [.ref 1789],
 .new 1759 (clsO P 2 [.ref 789] [.ref 789,.type "object"] 126 1759 2569 987 "HandlerFrame" v2448 [(989,["self","variable","handlers","success","depth"]),(995,["self","machine","value"]),(1003,["self","machine","leaving","wanted","forms","value"])] ["depth","handlers","success","variable"]),
 pr "go_on_with" 2628 1798,
 ap 1014 1797,
 .new 1792 (fnO 127 1792 2619 1014 ["machine","variable","forms","value"] v2448)]
theorem run45(w:World)(os:OsState):RunG w os 353 T44 1759 2567 126 2 ⟨984,0,986,26⟩ T45 1799 2629 ⟨1014,0,1019,39⟩:=by kernel_rfl
noncomputable def T46(P:Params):BT:=ops P (T45 P) [
 pr "CaughtFrame" 2665 1822,
 ap 1020 1804,
 .sub 789 [.ref 1822],
 .new 1799 (clsO P 2 [.ref 789] [.ref 789,.type "object"] 128 1799 2631 1020 "CaughtFrame" v2448 [(1022,["self","variable","forms","value"]),(1027,["self","machine"])] ["forms","value","variable"]),
 pr "condition_case" 2677 1831,
 ap 1030 1830,
 .new 1825 (fnO 129 1825 2666 1030 ["machine","forms","handlers","success","handler","parts"] v2448),
 pr "ignore_errors" 2685 1838,
 ap 1041 1837,
 .new 1832 (fnO 130 1832 2678 1041 ["machine","forms"] v2448),
 pr "exit_forms" 2691 1843,
 ap 1044 1842,
 .new 1839 (fn5 (stm 131) 1839 2686 1044 "exit_forms" "exit_forms" (.none) (.str "emacs.exits" 2448)),
 .put 3 0 (.str "emacs.obarray" 2692)]
theorem run46(w:World)(os:OsState):RunG w os 381 T45 1799 2629 128 5 ⟨1014,0,1019,39⟩ T46 1844 2694 ⟨1047,0,1047,8⟩:=by kernel_rfl
noncomputable def T47(P:Params):BT:=ops P (T46 P) [
 pr "Obarray" 2786 1916,
 ap 1048 1849,
 .new 1844 (clsO P 0 [] [.type "object"] 133 1844 2696 1048 "Obarray" v2692 [(1050,["self"]),(1054,["self","name","found"]),(1061,["self","name"]),(1064,["self","name","found"]),(1069,["self","number"]),(1072,["self","symbol"]),(1075,["self","name"]),(1078,["self"]),(1081,["self"])] ["names","rows"])]
theorem run47(w:World)(os:OsState):RunG w os 479 T46 1844 2694 133 1 ⟨1047,0,1047,8⟩ T47 1921 2787 ⟨1048,0,1082,17⟩:=by kernel_rfl
noncomputable def T48(P:Params):BT:=ops P (T47 P) [
 .put 3 0 (.str "emacs.world" 2787),
 pr "World" 2853 1965,
 ap 1084 1926,
 .new 1921 (clsO P 0 [] [.type "object"] 135 1921 2791 1084 "World" v2787 [(1086,["self"]),(1095,["self","name"]),(1098,["self"]),(1103,["self"]),(1106,["self","functions","function"])] ["bare","cells","current","last_marker","machine","obarray","variables"]),
 .put 3 0 (.str "law_np0117_01" 2854)]
theorem run48(w:World)(os:OsState):RunG w os 373 T47 1921 2787 134 3 ⟨1048,0,1082,17⟩ T48 1970 2856 ⟨1109,0,1109,8⟩:=by kernel_rfl
noncomputable def T49(P:Params):BT:=ops P (T48 P) [
 pr "_law_deck" 2861 1974,
 ap 1110 1973,
 .new 1970 (fn5 (stm 137) 1970 2856 1110 "_law_deck" "_law_deck" (.none) (.str "law_np0117_01" 2854)),
 pr "_law_draw" 2872 1981,
 ap 1113 1980,
 .new 1975 (fnO 138 1975 2862 1113 ["deck","many","cells_own","seed","found"] v2854),
 pr "_law_shown" 2878 1986,
 ap 1123 1985,
 .new 1982 (fn5 (stm 139) 1982 2873 1123 "_law_shown" "_law_shown" (.none) (.str "law_np0117_01" 2854)),
 pr "_law_noter" 2887 1993,
 ap 1130 1992,
 .new 1987 (fn7 (stm 140) 1987 2879 1130 "_law_noter" "_law_noter" ["notes","deed"] ["notes"] (.none) (.str "law_np0117_01" 2854)),
 pr "_law_back" 2895 2000,
 ap 1136 1999,
 .new 1994 (fnO 141 1994 2888 1136 ["world_own","values"] v2854),
 pr "_law_sequence" 2903 2007,
 ap 1139 2006,
 .new 2001 (fnO 142 2001 2896 1139 ["deck","numbers"] v2854),
 pr "_law_ran" 2909 2012,
 ap 1141 2011,
 .new 2008 (fn5 (stm 143) 2008 2904 1141 "_law_ran" "_law_ran" (.none) (.str "law_np0117_01" 2854)),
 pr "_law_called" 2918 2019,
 ap 1146 2018,
 .new 2013 (fnO 144 2013 2910 1146 ["way","numbers","notes"] v2854),
 pr "_law_function" 2929 2026,
 ap 1155 2025,
 .new 2020 (fnO 145 2020 2919 1155 ["world_own","way","quote_own","symbol","body"] v2854),
 pr "_law_pair" 2937 2033,
 ap 1161 2032,
 .new 2027 (fnO 146 2027 2930 1161 ["world_own","values"] v2854),
 pr "_law_begun" 2948 2040,
 ap 1163 2039,
 .new 2034 (fnO 147 2034 2938 1163 ["world_own","notes","rows_own","number","row"] v2854),
 pr "_law_form" 2954 2045,
 ap 1169 2044,
 .new 2041 (fn5 (stm 148) 2041 2949 1169 "_law_form" "_law_form" (.none) (.str "law_np0117_01" 2854))]
theorem run49(w:World)(os:OsState):RunG w os 356 T48 1970 2856 137 12 ⟨1109,0,1109,8⟩ T49 2046 2955 ⟨1169,0,1181,110⟩:=by kernel_rfl
noncomputable def T50(P:Params):BT:=ops P (T49 P) [
 pr "law" 2960 2050,
 ap 1182 2049,
 .new 2046 (fn5 (stm 149) 2046 2955 1182 "law" "law" (.none) (.str "law_np0117_01" 2854))]
theorem run50(w:World)(os:OsState):RunG w os 27 T49 2046 2955 149 1 ⟨1169,0,1181,110⟩ T50 2051 2961 ⟨1182,0,1213,119⟩:=by kernel_rfl
theorem pre(w:World)(os:OsState):topGo treeTable prog w 11 (some (.ref 6)) 12 ⟨boot_heap w.params,#[],boot_drawn,boot_toks,os⟩ (topStub prog)=some ((sh w os (T0 w.params) 15 187).abs,⟨denote treeTable bc,bc,zpos,[topFrame zpos]⟩):=by
 kernel_rfl
theorem block(w:World)(os:OsState):segRun treeTable prog w 11 (some (.ref 6)) 1 1 (sh w os (T0 w.params) 15 187).abs (blockOf prog.main.body benv bc zpos [topFrame zpos])=some (.next,(sh w os (T0 w.params) 15 187).abs,bc,zpos):=by
 kernel_rfl
noncomputable def RestG(w:World)(os:OsState)(N:Nat)(T:Params→BT)(n t i:Nat)(p:Pos):Prop :=
 topRun treeTable prog w 11 (some (.ref 6)) N (sh w os (T w.params) n t).abs (restOf (prog.main.body.drop i) benv bc p [topFrame zpos])=some (sh w os (T50 w.params) 2051 2961).abs
theorem RestG.step{w:World}{os:OsState}{k:Nat}{T:Params→BT}{n t i m:Nat}{p:Pos}{T':Params→BT}{n' t' N:Nat}{p':Pos}(h:RunG w os k T n t i m p T' n' t' p')(r:RestG w os N T' n' t' (i + m) p'):RestG w os (k + N) T n t i p:=by
 unfold RestG at r ⊢
 rw [show prog.main.body.drop i=(prog.main.body.drop i).take m ++ prog.main.body.drop (i + m) by rw [← List.drop_drop];exact (List.take_append_drop m _).symm]
 refine piece_app (segRun_of ?_) r
 rw [PySem.W.Fast.te10110043849684766642,PySem.W.Fast.te14364793385576792824]
 unfold piecesOf
 rw [PySem.W.Fast.te12563942051412417395]
 exact h
theorem fin(w:World)(os:OsState):RestG w os 2 T50 2051 2961 150 ⟨1182,0,1213,119⟩:=by
 unfold RestG
 kernel_rfl
theorem RestG.start{w:World}{os:OsState}{N:Nat}(r:RestG w os N T0 15 187 0 zpos):topRun treeTable prog w 11 (some (.ref 6)) (12 + (1 + N)) ⟨boot_heap w.params,#[],boot_drawn,boot_toks,os⟩ (topStub prog)=some (sh w os (T50 w.params) 2051 2961).abs:=by
 unfold RestG at r
 rw [List.drop_zero] at r
 exact go_top (pre w os) (piece_block (block w os) r)
theorem runN(w:World)(os:OsState):topRun treeTable prog w 11 (some (.ref 6)) 16063 ⟨boot_heap w.params,#[],boot_drawn,boot_toks,os⟩ (topStub prog)=some (sh w os (T50 w.params) 2051 2961).abs :=
 RestG.start <| .step (run1 w os) <| .step (run2 w os) <| .step (run3 w os) <| .step (run4 w os) <| .step (run5 w os) <| .step (run6 w os) <| .step (run7 w os) <| .step (run8 w os) <| .step (run9 w os) <| .step (run10 w os) <| .step (run11 w os) <| .step (run12 w os) <| .step (run13 w os) <| .step (run14 w os) <| .step (run15 w os) <| .step (run16 w os) <| .step (run17 w os) <| .step (run18 w os) <| .step (run19 w os) <| .step (run20 w os) <| .step (run21 w os) <| .step (run22 w os) <| .step (run23 w os) <| .step (run24 w os) <| .step (run25 w os) <| .step (run26 w os) <| .step (run27 w os) <| .step (run28 w os) <| .step (run29 w os) <| .step (run30 w os) <| .step (run31 w os) <| .step (run32 w os) <| .step (run33 w os) <| .step (run34 w os) <| .step (run35 w os) <| .step (run36 w os) <| .step (run37 w os) <| .step (run38 w os) <| .step (run39 w os) <| .step (run40 w os) <| .step (run41 w os) <| .step (run42 w os) <| .step (run43 w os) <| .step (run44 w os) <| .step (run45 w os) <| .step (run46 w os) <| .step (run47 w os) <| .step (run48 w os) <| .step (run49 w os) <| .step (run50 w os) <| fin w os
noncomputable def looseN:List Str:=(List.append ["_wall","LispSignal","OutOfSteps","standard_conditions","conditions_of","Symbol","NIL","T","Cons","Text","Vector","Subr","Opaque","list_of","split_list","items_of","text_of","MANY","count_fits","Function"] (List.append ["Caller","Special","MOST_LINKS","MOST_PARTS","is_keyword","is_constant","Cells","OPTIONAL","REST","LambdaList","bad_function","read_lambda_list","values_for","bind_parameters","VOID","LOCAL","DEFAULT","Variables","Locals","value_in"] (List.append ["set_in","Bound","bind","bind_variables","unbind","BindingStack","THROW","SIGNAL","Thrown","Frame","StartFrame","CallFrame","ArgumentsFrame","SequenceFrame","BodyFrame","ExpandFrame","begins_with","is_same","Machine","CONDITIONS"] (List.append ["conditions","takes_name","is_handled","datum_of","error_object","data_of","funcall","need_list","apply_to","form_value","throw","signal","sequence_items","MapFrame","mapcar","mapc","ExpansionFrame","begin_expansion","macroexpand","macroexpand_once"] (List.append ["calling_functions","need_symbol","progn","quote","IfFrame","if_form","when_form","unless_form","CondFrame","cond","JoinFrame","join","and_form","or_form","WhileFrame","while_form","Prog1Frame","prog1","SetFrame","set_default"] (List.append ["set_pairs","setq","setq_default","read_bindings","LetFrame","let","LetStarFrame","let_star","choosing_forms","binding_forms","CatchFrame","catch","UnwindFrame","unwind_protect","HandlerFrame","go_on_with","CaughtFrame","condition_case","ignore_errors","exit_forms"] ["Obarray","World","_law_deck","_law_draw","_law_shown","_law_noter","_law_back","_law_sequence","_law_ran","_law_called","_law_function","_law_pair","_law_begun","_law_form"]))))))
noncomputable def qv:Program:=view prog [149]
noncomputable def HF(P:Params):Heap:=absHeap (T50 P) 2051 (boot_heap P).life
noncomputable def SF(w:World)(os:OsState):Shared:=⟨HF w.params,#[],boot_drawn,2961,os⟩
theorem lk1(w:World):staticsOk (importedModules prog.main.body) (boot_heap w.params) (HF w.params)=true:=by kernel_rfl
theorem lk2(w:World):namesBound prog (HF w.params)=true:=by kernel_rfl
theorem lk3(w:World)(os:OsState):gensDone (SF w os)=true:=by kernel_rfl
theorem lk4(w:World):laidKept (boot_heap w.params) (HF w.params)=true:=by kernel_rfl
end MH
end
section
open PySem renaming Expr→PX,Str→PS
open PySem PySem.W PySem.Calls PyProof.Rows
namespace MH
theorem os1(w:World)(os:OsState):seen ((recsOf qv).map (·.name)) (ownsOf qv) [] { (SF w os) with gens:=#[] }=expectedOf qv:=by kernel_rfl
theorem os2(w:World):(HF w.params).bltView=bltViewBooted:=by kernel_rfl
theorem os3a(w:World):(HF w.params).keysOk (looseW qv looseN) ((recsOf qv).map (·.name)) ((litsOf qv).map (·.1)) ((clssOf qv (looseW qv looseN)).map (·.name))=true:=by kernel_rfl
theorem os3b(w:World):(HF w.params).accountedOkI (importedModules prog.main.body)=true:=by kernel_rfl
theorem os3c(w:World):((HF w.params).isNs mainGlobals && (HF w.params).isNs builtinsNs)=true:=by kernel_rfl
theorem os3d(w:World):tablesOk qv (HF w.params)=true:=by kernel_rfl
theorem os4(w:World)(os:OsState):tabsOk qv (SF w os)=true:=by kernel_rfl
theorem os5(w:World)(os:OsState):(pinSeenD qv (drecsOf qv) (SF w os),plainSeenE qv (looseW qv looseN) (SF w os),plainSeenD qv looseN (SF w os),wideSeen qv (SF w os),clsSeenW qv looseN (SF w os))=(pinGoodD (drecsOf qv),plainGoodE qv (looseW qv looseN),plainGoodD qv looseN,wideGood qv,clsGoodW qv looseN):=by kernel_rfl
theorem size(w:World):((boot_heap w.params).isNs mainGlobals && (Array.mk []:Array GenState).size == 0,(boot_heap w.params).objs.size,(boot_heap w.params).nsMap mainGlobals "__annotations__")=(true,11,some (.ref 6)):=by kernel_rfl
noncomputable def YF(s:Shared):Heap × Nat:=(s.heap,s.toks)
noncomputable def YA(w:World):Heap × Nat:=(HF w.params,2961)
theorem opn:opening prog=plainProg prog.main.scope.names:=by kernel_rfl
theorem fnc:∀ s,fenceModules? prog s=some s:=by intro s;kernel_rfl
set_option tactic.hygienic true in
theorem looks(w:World):(fun os=>((staticsOk (importedModules prog.main.body) (boot_heap w.params) (HF w.params) && namesBound prog (HF w.params) && gensDone ⟨HF w.params,#[],boot_drawn,2961,os⟩ && laidKept (boot_heap w.params) (HF w.params)),
    openSeen qv looseN (importedModules prog.main.body) (fun _=>true) true ⟨HF w.params,#[],boot_drawn,2961,os⟩,YF ⟨HF w.params,#[],boot_drawn,2961,os⟩))=fun _=>(true,openGood qv looseN,YA w):=by
 funext os
 refine looks_pair ?_ (looks_pair ?_ rfl)
 ·rw [lk1 w,lk2 w,lk4 w];rw [show gensDone ⟨HF w.params,#[],boot_drawn,2961,os⟩=true from lk3 w os];rfl
 ·unfold openSeen openGood
  refine looks_pair (os1 w os) (looks_pair (os2 w) (looks_pair ?_ (looks_pair (os4 w os) (os5 w os))))
  show (_ && _ && _ && _ && _ && _ && _)=true
  have h3:=os3c w
  rw [Bool.and_eq_true] at h3
  rw [show (⟨HF w.params,#[],boot_drawn,2961,os⟩:Shared).heap=HF w.params from rfl,os3a w,os3b w,h3.1,h3.2,os3d w]
  rfl
theorem absE(w:World)(os:OsState):(sh w os (T50 w.params) 2051 2961).abs=SF w os:=by kernel_rfl
theorem runS(w:World)(os:OsState):topRun treeTable prog w 11 (some (.ref 6)) 16063 ⟨boot_heap w.params,#[],boot_drawn,boot_toks,os⟩ (topStub prog)=some (SF w os):=by
 rw [← absE w os];exact runN w os
theorem lefts(H₁:Params→Heap)(hH:H₁=HF)
  (size:∀ w:World,((boot_heap w.params).isNs mainGlobals && (Array.mk []:Array GenState).size == 0,(boot_heap w.params).objs.size,(boot_heap w.params).nsMap mainGlobals "__annotations__")=(true,11,some (.ref 6)))
  (run:∀ (w:World) (os:OsState),topRun treeTable prog w 11 (some (.ref 6)) 16063 ⟨boot_heap w.params,Array.mk [],boot_drawn,boot_toks,os⟩ (topStub prog)=some ⟨H₁ w.params,#[],boot_drawn,2961,os⟩)
  (looks:∀ w:World,(fun os=>((staticsOk (importedModules prog.main.body) (boot_heap w.params) (H₁ w.params) && namesBound prog (H₁ w.params) && gensDone ⟨H₁ w.params,#[],boot_drawn,2961,os⟩ && laidKept (boot_heap w.params) (H₁ w.params)),
    openSeen qv looseN (importedModules prog.main.body) (fun _=>true) true ⟨H₁ w.params,#[],boot_drawn,2961,os⟩,YF ⟨H₁ w.params,#[],boot_drawn,2961,os⟩))=fun _=>(true,openGood qv looseN,YA w)) :
  LeftO prog qv looseN (fun _=>true) YF YA 16063 :=
 LeftO.of_pieces (H₀:=boot_heap) (H₁:=H₁) (boot_open opn (by kernel_rfl) fnc) size run (by kernel_rfl) looks
theorem left:LeftO prog qv looseN (fun _=>true) YF YA 16063:=lefts HF rfl size (fun w os=>runS w os) looks
noncomputable abbrev lw:=PySem.Challenge.rw_np0117_01
theorem hd0:(defOf qv "law").isSome=true:=by kernel_rfl
noncomputable def dk:=(defOf qv "law").get hd0
theorem hdef:defOf qv lw.row.name=some (dk.1,dk.2):=by
 show defOf qv "law" = _
 exact (Option.some_get hd0).symm
theorem hp:lw.row.prog.theDef lw.row.name=some (dk.1.params,dk.1.body,dk.1.scope):=by
 rw [PySem.W.Fast.te10235530238920679567]
 kernel_rfl
theorem hk:kwWritten? dk.1.params.kwonlyargs dk.1.params.kw_defaults=some dk.2:=by kernel_rfl
theorem hRf:∀ s,(fun _:Shared=>true) s=true→RecFacts lw.row.records s.heap:=fun s _=>by
 first | exact recFacts_of (by rfl) | (constructor <;> intro x hx <;> cases hx)
theorem ok1:(chainsOk qv && opensWell lw.row.prog && (frees lw.row.toRowW && lw.row.within.isEmpty))=true:=by kernel_rfl
theorem bare1:lw.row.prog.bare:=⟨rfl,rfl,rfl,rfl,rfl,by decide +kernel⟩
theorem rowHoldsG(d:DefRec)(kwd)(hdef:defOf qv lw.row.name=some (d,kwd))(hp:lw.row.prog.theDef lw.row.name=some (d.params,d.body,d.scope))(hk:kwWritten? d.params.kwonlyargs d.params.kw_defaults=some kwd)
 (hRf:∀ s,(fun _:Shared=>true) s=true→RecFacts lw.row.records s.heap)
 (ok1:(chainsOk qv && opensWell lw.row.prog && (frees lw.row.toRowW && lw.row.within.isEmpty))=true) (bare1:lw.row.prog.bare) (said:lw.row.wellSaid=true) (hw:lw.row.toRowW.promised) (call:WalkX qv looseN (fun _ _=>True) YF YA lw.row.toRowW d kwd fun f vs=>PySem.call f vs):lw.row.Holds :=
 holds_openX (q:=qv) (loose:=looseN) (Xt:=fun _=>true) (XP:=fun _ _=>True) (Yf:=YF) (Ya:=YA) (N:=16063) left (fun _ _=>trivial) (fun _ _ _ _ _=>trivial) hdef hp hk hRf (by rfl) said ok1 bare1 hw call
end MH
end
section
local macro_rules | `($n:num) => `(nat_lit $n)
open PySem PySem.W PySem.Calls PyProof.Rows
namespace Mine
noncomputable def fnAT:TR Nat:=(.node (some 21) (.node (some 35) (.node (some 68) (.node (some 138) (.node (some 244) (.node (some 397) (.node (some 682) (.node (some 1261) .nil .nil) (.node (some 1864) .nil .nil)) (.node (some 1026) (.node (some 1567) .nil .nil) .nil)) (.node (some 535) (.node (some 866) (.node (some 1402) .nil .nil) (.node (some 1993) .nil .nil)) (.node (some 1141) (.node (some 1706) .nil .nil) .nil))) (.node (some 317) (.node (some 453) (.node (some 772) (.node (some 1327) .nil .nil) (.node (some 1934) .nil .nil)) (.node (some 1082) (.node (some 1642) .nil .nil) .nil)) (.node (some 605) (.node (some 963) (.node (some 1482) .nil .nil) (.node (some 2045) .nil .nil)) (.node (some 1193) (.node (some 1786) .nil .nil) .nil)))) (.node (some 208) (.node (some 277) (.node (some 425) (.node (some 717) (.node (some 1301) .nil .nil) (.node (some 1892) .nil .nil)) (.node (some 1054) (.node (some 1602) .nil .nil) .nil)) (.node (some 563) (.node (some 918) (.node (some 1447) .nil .nil) (.node (some 2019) .nil .nil)) (.node (some 1165) (.node (some 1746) .nil .nil) .nil))) (.node (some 357) (.node (some 502) (.node (some 814) (.node (some 1367) .nil .nil) (.node (some 1962) .nil .nil)) (.node (some 1108) (.node (some 1671) .nil .nil) .nil)) (.node (some 633) (.node (some 998) (.node (some 1527) .nil .nil) .nil) (.node (some 1221) (.node (some 1831) .nil .nil) .nil))))) (.node (some 89) (.node (some 180) (.node (some 256) (.node (some 411) (.node (some 703) (.node (some 1282) .nil .nil) (.node (some 1878) .nil .nil)) (.node (some 1040) (.node (some 1581) .nil .nil) .nil)) (.node (some 549) (.node (some 892) (.node (some 1428) .nil .nil) (.node (some 2007) .nil .nil)) (.node (some 1153) (.node (some 1732) .nil .nil) .nil))) (.node (some 343) (.node (some 481) (.node (some 786) (.node (some 1348) .nil .nil) (.node (some 1948) .nil .nil)) (.node (some 1094) (.node (some 1661) .nil .nil) .nil)) (.node (some 619) (.node (some 984) (.node (some 1508) .nil .nil) .nil) (.node (some 1207) (.node (some 1812) .nil .nil) .nil)))) (.node (some 230) (.node (some 303) (.node (some 439) (.node (some 731) (.node (some 1313) .nil .nil) (.node (some 1906) .nil .nil)) (.node (some 1068) (.node (some 1621) .nil .nil) .nil)) (.node (some 577) (.node (some 944) (.node (some 1461) .nil .nil) (.node (some 2033) .nil .nil)) (.node (some 1179) (.node (some 1772) .nil .nil) .nil))) (.node (some 376) (.node (some 514) (.node (some 840) (.node (some 1381) .nil .nil) (.node (some 1981) .nil .nil)) (.node (some 1122) (.node (some 1692) .nil .nil) .nil)) (.node (some 654) (.node (some 1012) (.node (some 1548) .nil .nil) .nil) (.node (some 1242) (.node (some 1843) .nil .nil) .nil)))))) (.node (some 55) (.node (some 75) (.node (some 159) (.node (some 249) (.node (some 404) (.node (some 689) (.node (some 1275) .nil .nil) (.node (some 1871) .nil .nil)) (.node (some 1033) (.node (some 1574) .nil .nil) .nil)) (.node (some 542) (.node (some 885) (.node (some 1414) .nil .nil) (.node (some 2000) .nil .nil)) (.node (some 1148) (.node (some 1718) .nil .nil) .nil))) (.node (some 336) (.node (some 474) (.node (some 779) (.node (some 1334) .nil .nil) (.node (some 1941) .nil .nil)) (.node (some 1087) (.node (some 1649) .nil .nil) .nil)) (.node (some 612) (.node (some 977) (.node (some 1494) .nil .nil) (.node (some 2050) .nil .nil)) (.node (some 1200) (.node (some 1798) .nil .nil) .nil)))) (.node (some 215) (.node (some 284) (.node (some 432) (.node (some 724) (.node (some 1308) .nil .nil) (.node (some 1899) .nil .nil)) (.node (some 1061) (.node (some 1609) .nil .nil) .nil)) (.node (some 570) (.node (some 925) (.node (some 1454) .nil .nil) (.node (some 2026) .nil .nil)) (.node (some 1172) (.node (some 1758) .nil .nil) .nil))) (.node (some 369) (.node (some 507) (.node (some 833) (.node (some 1374) .nil .nil) (.node (some 1974) .nil .nil)) (.node (some 1115) (.node (some 1685) .nil .nil) .nil)) (.node (some 647) (.node (some 1005) (.node (some 1541) .nil .nil) .nil) (.node (some 1235) (.node (some 1838) .nil .nil) .nil))))) (.node (some 116) (.node (some 201) (.node (some 270) (.node (some 418) (.node (some 710) (.node (some 1294) .nil .nil) (.node (some 1885) .nil .nil)) (.node (some 1047) (.node (some 1588) .nil .nil) .nil)) (.node (some 556) (.node (some 911) (.node (some 1435) .nil .nil) (.node (some 2012) .nil .nil)) (.node (some 1160) (.node (some 1739) .nil .nil) .nil))) (.node (some 350) (.node (some 488) (.node (some 807) (.node (some 1355) .nil .nil) (.node (some 1955) .nil .nil)) (.node (some 1101) (.node (some 1666) .nil .nil) .nil)) (.node (some 626) (.node (some 991) (.node (some 1515) .nil .nil) .nil) (.node (some 1214) (.node (some 1819) .nil .nil) .nil)))) (.node (some 237) (.node (some 310) (.node (some 446) (.node (some 752) (.node (some 1320) .nil .nil) (.node (some 1913) .nil .nil)) (.node (some 1075) (.node (some 1635) .nil .nil) .nil)) (.node (some 598) (.node (some 956) (.node (some 1475) .nil .nil) (.node (some 2040) .nil .nil)) (.node (some 1186) (.node (some 1779) .nil .nil) .nil))) (.node (some 390) (.node (some 521) (.node (some 859) (.node (some 1395) .nil .nil) (.node (some 1986) .nil .nil)) (.node (some 1129) (.node (some 1699) .nil .nil) .nil)) (.node (some 668) (.node (some 1019) (.node (some 1560) .nil .nil) .nil) (.node (some 1254) (.node (some 1857) .nil .nil) .nil)))))))
noncomputable def clAT:TR Nat:=(.node (some 38) (.node (some 58) (.node (some 119) (.node (some 218) (.node (some 671) (.node (some 1485) .nil .nil) .nil) (.node (some 928) (.node (some 1822) .nil .nil) .nil)) (.node (some 456) (.node (some 817) (.node (some 1652) .nil .nil) .nil) (.node (some 1285) .nil .nil))) (.node (some 162) (.node (some 320) (.node (some 755) (.node (some 1551) .nil .nil) .nil) (.node (some 1132) (.node (some 1965) .nil .nil) .nil)) (.node (some 580) (.node (some 869) (.node (some 1749) .nil .nil) .nil) (.node (some 1405) .nil .nil)))) (.node (some 92) (.node (some 141) (.node (some 287) (.node (some 734) (.node (some 1518) .nil .nil) .nil) (.node (some 947) (.node (some 1916) .nil .nil) .nil)) (.node (some 491) (.node (some 843) (.node (some 1709) .nil .nil) .nil) (.node (some 1358) .nil .nil))) (.node (some 183) (.node (some 360) (.node (some 789) (.node (some 1612) .nil .nil) .nil) (.node (some 1245) .nil .nil)) (.node (some 636) (.node (some 895) (.node (some 1789) .nil .nil) .nil) (.node (some 1438) .nil .nil)))))
noncomputable def kAds:List Addr:=(List.append [3,0,1,4,38,37,58,57,92,91,119,118,141,140,162,161,183,182,218,217] (List.append [287,286,320,319,360,359,456,455,491,490,580,579,636,635,671,670,734,733,755,754] (List.append [789,788,817,816,843,842,869,868,895,894,928,927,947,946,1132,1131,1245,1244,1285,1284] (List.append [1358,1357,1405,1404,1438,1437,1485,1484,1518,1517,1551,1550,1612,1611,1652,1651,1709,1708,1749,1748] (List.append [1789,1788,1822,1821,1916,1915,1965,1964,131,223,35,34,89,88,116,115,138,137,159,158] (List.append [180,179,230,229,237,236,244,243,256,255,303,302,317,316,336,335,357,356,369,368] (List.append [376,375,390,389,397,396,411,410,418,417,474,473,481,480,507,506,514,513,521,520] (List.append [535,534,542,541,549,548,598,597,605,604,647,646,668,667,682,681,689,688,703,702] (List.append [710,709,717,716,731,730,752,751,779,778,786,785,807,806,814,813,833,832,840,839] (List.append [859,858,866,865,885,884,892,891,911,910,918,917,925,924,956,955,963,962,977,976] (List.append [984,983,991,990,998,997,1005,1004,1012,1011,1019,1018,1033,1032,1040,1039,1047,1046,1061,1060] (List.append [1068,1067,1075,1074,1082,1081,1087,1086,1101,1100,1108,1107,1115,1114,1122,1121,1179,1178,1186,1185] (List.append [1193,1192,1207,1206,1221,1220,1235,1234,1242,1241,1254,1253,1261,1260,1313,1312,1327,1326,1334,1333] (List.append [1666,1665,1671,1670,1685,1684,1692,1691,1699,1698,1706,1705,1718,1717,1843,1842,1857,1856,1864,1863] (List.append [1878,1877,1934,1933,1941,1940,1948,1947,1962,1961,1974,1973,1981,1980,1986,1985,1993,1992,2000,1999] [2007,2006,2012,2011,2019,2018,2026,2025,2033,2032,2040,2039,2045,2044,2050,2049])))))))))))))))
noncomputable def gT:GT:=[(18,(.a (.blt 1))),(19,(.a (.blt 0))),(20,(.a (.cls 3))),(24,(.a (.blt 2))),(26,(.a (.fn 14))),(27,(.a (.sym 0))),(29,(.a (.int (.negSucc 0)))),(31,(.a (.fn 17))),(37,(.a (.fn 28))),(42,(.a (.cls 0))),(45,(.a (.int (.ofNat 100)))),(46,(.a (.cls 2))),(53,(.a (.fn 15))),(54,(.a (.blt 3))),(57,(.a (.fn 43))),(59,(.a (.str 60))),(61,(.a (.str 62))),(63,(.a (.cls 12))),(65,(.a (.blt 6))),(67,(.a (.fn 13))),(71,(.a (.fn 45))),(77,(.a .none)),(84,(.a (.cls 15))),(85,(.a (.int (.ofNat 0)))),(86,(.a (.int (.ofNat 1)))),(90,(.a (.fn 29))),(91,(.a (.fn 63))),(95,(.a (.fn 64))),(108,(.a (.blt 7))),(113,(.a (.cls 16))),(115,(.a (.fn 60))),(125,(.a (.cls 10))),(127,(.a (.fn 86))),(130,(.a (.cls 24))),(131,(.a (.cls 21))),(133,(.a (.cls 6))),(134,(.a (.cls 8))),(139,(.a (.fn 46))),(140,(.a (.fn 44))),(141,(.a (.cls 23))),(143,(.a (.str 144))),(144,(.a (.fn 122))),(145,(.a (.cls 17))),(146,(.a (.str 147))),(147,(.a (.fn 121))),(148,(.a (.blt 4))),(151,(.a (.cls 1))),(157,(.a (.cls 19))),(158,(.a (.cls 20))),(159,(.a (.fn 118))),(161,(.a (.cls 5))),(162,(.a (.blt 5))),(163,(.a (.cls 4))),(166,(.a (.cls 26))),(167,(.a (.fn 123))),(168,(.a (.fn 117))),(169,(.a (.fn 119))),(171,(.a (.fn 120))),(172,(.a (.fn 126))),(173,(.a (.fn 127))),(174,(.a (.fn 131))),(176,(.a (.fn 132))),(177,(.a (.cls 9))),(178,(.a (.cls 22))),(179,(.a (.fn 136))),(180,(.a (.fn 135))),(182,(.a (.fn 139))),(184,(.a (.fn 140))),(186,(.a (.fn 141))),(187,(.a (.fn 144))),(189,(.a (.fn 148))),(191,(.a (.fn 149))),(193,(.a (.fn 152))),(194,(.a (.fn 155))),(195,(.a (.fn 160))),(197,(.a (.fn 161))),(198,(.a (.fn 165))),(200,(.a (.fn 169))),(202,(.a (.fn 87))),(203,(.a (.cls 36))),(204,(.a (.fn 176))),(206,(.a (.fn 180))),(208,(.a (.fn 187))),(210,(.a (.fn 188))),(212,(.a (.cls 40))),(213,(.a (.cls 11))),(214,(.a (.cls 13))),(216,(.a (.cls 14))),(223,(.a (.fn 206))),(227,(.a (.fn 205))),(240,(.a (.fn 170))),(241,(.a (.fn 171))),(242,(.a (.fn 189))),(243,(.a (.fn 133))),(245,(.a (.fn 207))),(246,(.a (.fn 213))),(248,(.a (.fn 208))),(249,(.a (.fn 212))),(254,(.a (.fn 209))),(255,(.a (.fn 204))),(258,(.a (.cls 41))),(259,(.a (.cls 25))),(260,(.a (.fn 214))),(262,(.a (.fn 215))),(265,(.a (.fn 211))),(266,(.a (.fn 210))),(267,(.a (.blt 8))),(305,(.a (.sym 1)))]
noncomputable def KF(P:Params):Frag:=kAds.map fun a=>(a,((MH.T50 P).get a).getD default)
end Mine
end
section
open PySem renaming Expr→PX,Str→PS
open PySem PySem.W PySem.Calls PyProof.Rows
namespace Mine
noncomputable def TR.toL{α:Type}:TR α→List (Nat × α)
 | .nil=>[]
 | .node o l r=>(match o with | some a=>[(0,a)] | none=>[]) ++ (l.toL.map fun p=>(2 * p.1 + 1,p.2)) ++ r.toL.map fun p=>(2 * p.1 + 2,p.2)
theorem TR.get_node{α:Type}(o:Option α)(l r:TR α)(i:Nat):(TR.node o l r).get i=if i=0 then o else if i % 2=1 then l.get (i / 2) else r.get (i / 2 - 1):=by
 show @Bool.rec (fun _=>Option α) (@Bool.rec (fun _=>Option α) (r.get (i / 2 - 1)) (l.get (i / 2)) (Nat.beq (i % 2) 1)) o (Nat.beq i 0)=_
 rw [beqE i 0,beqE (i % 2) 1]
 by_cases h:i=0
 ·rw [if_pos h,decide_eq_true h]
 ·rw [if_neg h,decide_eq_false h]
  by_cases q:i % 2=1
  ·rw [if_pos q,decide_eq_true q]
  ·rw [if_neg q,decide_eq_false q]
theorem TR.toL_of{α:Type}:∀ {t:TR α} {i:Nat} {a:α},t.get i=some a→(i,a)∈t.toL
 | .nil,i,a,h=>by cases h
 | .node o l r,i,a,h=>by
  rw [TR.get_node] at h
  show (i,a)∈(match o with | some a=>[(0,a)] | none=>[]) ++ (l.toL.map fun p=>(2 * p.1 + 1,p.2)) ++ r.toL.map fun p=>(2 * p.1 + 2,p.2)
  by_cases h0:i=0
  ·rw [if_pos h0] at h;subst h;subst h0;exact List.mem_append_left _ (List.mem_append_left _ (.head _))
  ·rw [if_neg h0] at h
   by_cases q:i % 2=1
   ·rw [if_pos q] at h
    refine List.mem_append_left _ (List.mem_append_right _ (List.mem_map.mpr ⟨_,TR.toL_of h,?_⟩))
    show (2 * (i / 2) + 1,a)=_
    rw [odd_at q]
   ·rw [if_neg q] at h
    refine List.mem_append_right _ (List.mem_map.mpr ⟨_,TR.toL_of h,?_⟩)
    show (2 * (i / 2 - 1) + 2,a)=_
    rw [even_at h0 q]
theorem TR.all_of{α:Type}{t:TR α}{f:Nat × α→Bool}(h:t.toL.all f=true){i:Nat}{a:α}(e:t.get i=some a):f (i,a)=true:=List.all_eq_true.mp h _ (TR.toL_of e)
noncomputable def deedSt:Stmt:=(MH.fnBody (MH.stm 140)).getD 0 (.Pass MH.zpos)
noncomputable def CloR(l:List (Addr × Obj))(a la:Addr):Prop:=∃ o fdat c oc cc occ vs t,(a,o)∈l∧o.data=.func fdat∧fdat.body=.stmts (MH.fnBody deedSt)∧fdat.scope=MH.fnScope deedSt∧fdat.params=MH.fnPar deedSt∧fdat.globals=mainGlobals∧fdat.builtins=builtinsNs ∧
 fdat.closure=[(nmS FDeed.name,c)]∧(c,oc)∈l∧oc.data=.cell (some (.ref la))∧fdat.code=.ref cc∧(cc,occ)∈l∧occ.data=.fields vs∧vs[1]?=some (.str fdat.qualname t)∧fdat.defaults=.none
noncomputable def ZZ:SA:=⟨KF,fun k=>(fnAT.get k).getD 0,fun c=>(clAT.get c).getD 0,98,101,1988,.none,CloR⟩
theorem f_sys(P:Params):((KF P).lookup sysModules).isSome=true:=by kernel_rfl
theorem f_inj:(clT.toL.all fun p=>clT.toL.all fun q=>Nat.beq p.1 q.1 || !Nat.beq (ZZ.clA p.1) (ZZ.clA q.1))=true:=by kernel_rfl
noncomputable def f1(P:Params)(c:Nat)(cd:CD):Bool:=clsOk ZZ (KF P) c cd && kxOk (KF P) (ZZ.clA c) && kitOne (KF P) (.ref (ZZ.clA c)) (.type "int") == some false && kitOne (KF P) (.ref (ZZ.clA c)) (.type "str") == some false &&
 (clT.toL.all fun q=>kitOne (KF P) (.ref (ZZ.clA c)) (.ref (ZZ.clA q.1)) == some (memN cd.anc q.1)) &&
 (match assoc cd.mths nInit with | some i=>makesIn (KF P) (ZZ.clA c) && findIn (KF P) (.ref (ZZ.clA c)) "__init__" == some (some (.ref (ZZ.fnA i))) && typeIn (KF P) (.ref (ZZ.fnA i)) == some (.type "function") | none=>true)
noncomputable def f2(P:Params)(c:Nat)(cd:CD):Bool:=keepIn (KF P) (.ref (ZZ.clA c)) && clT.toL.all fun q=>mroIn (KF P) (ZZ.clA c) (.ref (ZZ.clA q.1)) == some (memN cd.anc q.1)
theorem f_cls(P:Params):(clT.toL.all fun p=>f2 P p.1 p.2 && (match Nat.beq p.2.kind 2 with | true=>excOk ZZ (KF P) p.1 p.2 | false=>f1 P p.1 p.2))=true:=by kernel_rfl
theorem f_typ(P:Params):(tyNames.all fun t=>(clT.toL.all fun q=>kitOne (KF P) (.type t) (.ref (ZZ.clA q.1)) == some false) && (t == "bool" || kitOne (KF P) (.type t) (.type "int") == some (t == "int")) && kitOne (KF P) (.type t) (.type "str") == some (t == "str"))=true:=by kernel_rfl
theorem f_sym(P:Params):(findIn (KF P) (.ref (ZZ.clA 2)) (nmS nName) == some none && findIn (KF P) (.ref (ZZ.clA 2)) (nmS nNumber) == some none)=true:=by kernel_rfl
theorem f_fns(P:Params):(([191,205,204,207] ++ fnT.toL.map (fun (p:Nat × FD)=>p.1)).all fun i=>keepIn (KF P) (.ref (ZZ.fnA i)) && fnIn (KF P) (ZZ.fnA i))=true:=by kernel_rfl
theorem f_glo(w:World):(gT.all fun p=>gloOk ZZ w (nmS p.1) p.2)=true:=by kernel_rfl
theorem f_frz:(clT.toL.all fun p=>!Nat.beq p.2.kind 1 || ((p.2.fields.all fun x=>memN p.2.flds x) && !p.2.fields.contains 2))=true:=by kernel_rfl
theorem f_ob:(clT.toL.all fun p=>!Nat.beq p.2.kind 3 || (Nat.beq p.1 40 && assoc p.2.mths nInit == some 190))=true:=by kernel_rfl
noncomputable def fdAt(P:Params)(i:Nat):Option FuncData:=match (KF P).lookup (ZZ.fnA i) with
 | some o=>(match o.data with | .func fd=>some fd | _=>none)
 | none=>none
noncomputable def bodyAt(P:Params)(i:Nat):Option SM:=(fdAt P i).bind fun fd=>match fd.body with | .stmts b=>trSL (trS gT fd.scope.names 30) b | _=>none
noncomputable def parsOk(fdat:FuncData)(ps:List Nat):Bool:=fdat.params.posonlyargs.isEmpty && fdat.params.args.map (·.arg) == ps.map nmS && fdat.params.kwonlyargs.isEmpty && fdat.params.vararg.isNone && fdat.params.kwarg.isNone && nodupN ps && ps.all fun x=>decide (x < names.length) && (fdat.scope.names.lookup (nmS x) == some .local || fdat.scope.names.lookup (nmS x) == some .cell)
noncomputable def tup1(P:Params)(T:Addr)(k:Value→Bool):Bool:=match (KF P).lookup T with
 | some ⟨_,_,.seq ⟨[d]⟩ _,_⟩=>k d
 | _=>false
noncomputable def refV(v:Value)(k:Addr→Bool):Bool:=match v with
 | .ref a=>k a
 | _=>false
noncomputable def dflOk(P:Params)(fdat:FuncData)(ps:List Nat)(dfl:VL):Bool:=match dfl with
 | []=>fdat.defaults == .none
 | [v]=>refV fdat.defaults fun T=>!ps.isEmpty && tup1 P T (gvOk ZZ v)
 | _=>false
noncomputable def fnOk(P:Params)(i:Nat)(fd:FD):Bool:=match fdAt P i with
 | some fdat=>!fdat.scope.isCoroutine && !fdat.scope.isGenerator && fdat.scope.kind == .function && fdat.globals == mainGlobals && fdat.builtins == builtinsNs && fdat.closure.isEmpty && codeIn (KF P) fdat.code fdat.qualname && parsOk fdat fd.prms && dflOk P fdat fd.prms fd.dfl
 | none=>false
theorem f_fn(P:Params):(fnT.toL.all fun p=>fnOk P p.1 p.2)=true:=by kernel_rfl
theorem f_body(P:Params):fnT.toL.map (fun p=>bodyAt P p.1)=fnT.toL.map fun p=>some p.2.body:=by kernel_rfl
theorem f_frz2:(clT.toL.filterMap fun p=>match Nat.beq p.2.kind 1 with | true=>some ((assoc p.2.mths nInit).bind fun i=>(fnT.get i).map fun fd=>(fd.prms.head?,fd.body)) | false=>none)=clT.toL.filterMap fun p=>match Nat.beq p.2.kind 1 with | true=>some (some (some 2,initB p.2.fields)) | false=>none:=by kernel_rfl
noncomputable def xcD(o:Obj):ClassData:=match o.data with | .cls c=>c | _=>default
noncomputable def xfD(o:Obj):FuncData:=match o.data with | .func f=>f | _=>default
noncomputable def xdE(o:Obj):Array DictEntry:=match o.data with | .dict es _=>es | _=>#[]
noncomputable def xdN(o:Obj):Nat:=match o.data with | .dict _ n=>n | _=>0
noncomputable def xo(P:Params)(a:Addr):Obj:=((MH.T50 P).get a).getD default
noncomputable def xsl(o:Obj)(i:Nat):Option Value:=(o.slots.toList[i]?).join
noncomputable def xE(P:Params)(C N:Addr):Obj:=let o:=xo P C;excClassObj (xcD o).name (xcD o).qualname C N (xcD o).bases excBm true (xcD o).slotNames (xcD o).subclasses (xcD o).abstract (xcD o).collection o.dict (xsl o 0) (xsl o 1) (xsl o 2) (xsl o 3) (xsl o 5) "Exception.__new__"
noncomputable def xps:FuncBody→List Pos
 | .stmts [.Assign [.Attribute (.Name _ p1) _ p2] (.Name _ p3) p4,.Assign [.Attribute (.Name _ p5) _ p6] (.Name _ p7) p8]=>[p1,p2,p3,p4,p5,p6,p7,p8]
 | _=>[]
noncomputable def xbody(ps:List Pos)(x1 x2:Nat):FuncBody:=.stmts [.Assign [.Attribute (.Name (nmS 2) (ps.getD 0 default)) (nmS x1) (ps.getD 1 default)] (.Name (nmS x1) (ps.getD 2 default)) (ps.getD 3 default),.Assign [.Attribute (.Name (nmS 2) (ps.getD 4 default)) (nmS x2) (ps.getD 5 default)] (.Name (nmS x2) (ps.getD 6 default)) (ps.getD 7 default)]
noncomputable def xchk(P:Params)(c N i x1 x2:Nat):Bool :=
 (xdE (xo P N)).toList.all (fun e=>match e.key with | .str _ _=>true | _=>false) && nsFind (xdE (xo P N)) "__init__" == some (.ref i) && (xo P i).cls == .type "function" &&
 (let fdat:=xfD (xo P i);!fdat.scope.isCoroutine && !fdat.scope.isGenerator && fdat.scope.kind == .function && fdat.globals == mainGlobals && fdat.builtins == builtinsNs && fdat.closure.isEmpty && codeIn (KF P) fdat.code fdat.qualname && parsOk fdat [2,x1,x2] && fdat.defaults == .none && fdat.scope.names.all (fun x=>x.2 != .cell)) &&
 okNm (nmS 2) && okNm (nmS x1) && okNm (nmS x2) &&
 (match clsIn (KF P) (ZZ.clA c) with | some cd=>cd.mro == .ref (ZZ.clA c) :: excBm && cd.hasDict | none=>false) && mroIn (KF P) (ZZ.clA c) (.type "object") == some true && findIn (KF P) (.ref (ZZ.clA c)) "__setattr__" == some (some (.builtin "object.__setattr__")) && findIn (KF P) (.ref (ZZ.clA c)) (nmS x1) == some none && findIn (KF P) (.ref (ZZ.clA c)) (nmS x2) == some none
theorem x_chk(P:Params):(xchk P 0 37 35 3 4 && xchk P 17 754 752 97 70)=true:=by kernel_rfl
theorem x_cls(P:Params):[(KF P).lookup 38,(KF P).lookup 755]=[some (xE P 38 37),some (xE P 755 754)]:=by kernel_rfl
theorem x_ns(P:Params):[(KF P).lookup 37,(KF P).lookup 754,(KF P).lookup 35,(KF P).lookup 752]=[some (xo P 37),some (xo P 754),some (xo P 35),some (xo P 752)]:=by kernel_rfl
theorem x_dat(P:Params):[(xo P 37).data,(xo P 754).data,(xo P 35).data,(xo P 752).data]=[.dict (xdE (xo P 37)) (xdN (xo P 37)),.dict (xdE (xo P 754)) (xdN (xo P 754)),.func (xfD (xo P 35)),.func (xfD (xo P 752))]:=by kernel_rfl
theorem x_bod(P:Params):[(xfD (xo P 35)).body,(xfD (xo P 752)).body]=[xbody (xps (xfD (xo P 35)).body) 3 4,xbody (xps (xfD (xo P 752)).body) 97 70]:=by kernel_rfl
theorem parsOk_ok{fdat:FuncData}{ps:List Nat}(h:parsOk fdat ps=true):PlainP fdat (ps.map nmS)∧∀ x∈ps,x < names.length∧(fdat.scope.names.lookup (nmS x)=some .local∨fdat.scope.names.lookup (nmS x)=some .cell):=by
 unfold parsOk at h
 simp only [Bool.and_eq_true,List.isEmpty_iff,Option.isNone_iff_eq_none,beq_iff_eq,List.all_eq_true,decide_eq_true_eq,Bool.or_eq_true] at h
 obtain⟨⟨⟨⟨⟨⟨h1,h2⟩,h3⟩,h4⟩,h5⟩,h6⟩,h7⟩:=h
 refine ⟨⟨h1,h2,h3,h4,h5,?_⟩,h7⟩
 clear h2 h5 h4 h3 h1
 induction ps with
 | nil=>exact List.nodup_nil
 | cons x r ih =>
  unfold nodupN at h6
  rw [Bool.and_eq_true,Bool.not_eq_true',← Bool.not_eq_true,List.contains_iff_mem] at h6
  refine List.nodup_cons.mpr ⟨fun hm=>h6.1 ?_,ih (fun y hy=>h7 y (.tail _ hy)) h6.2⟩
  obtain⟨y,hy,e⟩:=List.mem_map.mp hm
  rwa [← nmS_inj (h7 y (.tail _ hy)).1 (h7 x (.head _)).1 e]
theorem excK_of{P:Params}{c N i x1 x2:Nat}(cl:(KF P).lookup (ZZ.clA c)=some (xE P (ZZ.clA c) N))(h1:(KF P).lookup N=some (xo P N))(d1:(xo P N).data=.dict (xdE (xo P N)) (xdN (xo P N)))(h2:(KF P).lookup i=some (xo P i))(d2:(xo P i).data=.func (xfD (xo P i)))
  (hb:(xfD (xo P i)).body=xbody (xps (xfD (xo P i)).body) x1 x2) (hc:xchk P c N i x1 x2=true):ExcK ZZ (KF P) c x1 x2:=by
 unfold xchk at hc
 simp only [Bool.and_eq_true,beq_iff_eq,List.all_eq_true,Bool.not_eq_true',List.isEmpty_iff,bne_iff_ne] at hc
 obtain⟨⟨⟨⟨⟨⟨⟨⟨⟨⟨⟨e1,e2⟩,e3⟩,⟨⟨⟨⟨⟨⟨⟨⟨⟨a1,a2⟩,a3⟩,a4⟩,a5⟩,a6⟩,a7⟩,a8⟩,a9⟩,a10⟩⟩,e4⟩,e5⟩,e6⟩,e7⟩,e8⟩,e9⟩,e10⟩,e11⟩:=hc
 obtain⟨pp,pl⟩:=parsOk_ok a8
 cases hcd:clsIn (KF P) (ZZ.clA c) with
 | none=>rw [hcd] at e7;cases e7
 | some cd =>
 rw [hcd] at e7
 simp only [Bool.and_eq_true,beq_iff_eq] at e7
 have loc:∀ x∈[2,x1,x2],(xfD (xo P i)).scope.names.lookup (nmS x)=some .local:=fun x hx=>by
  rcases (pl x hx).2 with q | q
  ·exact q
  ·exact absurd rfl (a10 _ (lookup_mem q))
 exact⟨_,_,N,_,_,_,_,_,_,_,_,_,_,_,xo P N,_,_,i,xo P i,xfD (xo P i),cd,_,_,_,_,_,_,_,_,cl,h1,d1,fun e he=>(by
   have:=e1 e (Array.mem_toList_iff.mpr he)
   split at this
   ·exact⟨_,_,by assumption⟩
   ·cases this),e2,h2,e3,d2,hb,a1,a2,a3,a4,a5,a6,a7,pp,a9,a10,loc 2 (by simp),loc x1 (by simp),loc x2 (by simp),(okNm_ok e4).1,(okNm_ok e5).1,(okNm_ok e6).1,hcd,e7.1,e7.2,e8,e9,e10,e11⟩
theorem GOk_gT(w:World):GOk ZZ w gT:=fun i v h=>by
 have:=List.all_eq_true.mp (f_glo w) (i,v) (by
  have:∀ (l:GT),l.lookup i=some v→(i,v)∈l:=fun l=>by
   induction l with
   | nil=>intro h;cases h
   | cons p r ih =>
    intro h
    rw [List.lookup_cons] at h
    cases q:i == p.1 with
    | true=>rw [q] at h;cases h;rw [eq_of_beq q];exact .head _
    | false=>rw [q] at h;exact .tail _ (ih h)
  exact this _ h)
 exact this
theorem cls2(P:Params){c:Nat}{cd:CD}(e:clT.get c=some cd):f2 P c cd=true∧(cd.kind=2→excOk ZZ (KF P) c cd=true)∧(cd.kind≠2→f1 P c cd=true):=by
 have h:(f2 P c cd && (match Nat.beq cd.kind 2 with | true=>excOk ZZ (KF P) c cd | false=>f1 P c cd))=true:=TR.all_of (f_cls P) e
 rw [Bool.and_eq_true] at h
 refine ⟨h.1,fun k=>?_,fun k=>?_⟩
 ·have:=h.2;rw [k] at this;exact this
 ·have:=h.2;rw [beqE cd.kind 2,decide_eq_false k] at this;exact this
theorem all_cl{f:Nat × CD→Bool}(h:clT.toL.all f=true){d:Nat}(e:(clT.get d).isSome=true):∃ dd,f (d,dd)=true:=by
 obtain⟨dd,q⟩:=Option.isSome_iff_exists.mp e
 exact⟨dd,TR.all_of h q⟩
theorem kb_ok(w:World):KB ZZ w where
 clInj c d cd dd h1 h2 e:=by
  have h:=TR.all_of f_inj h1
  have h:(Nat.beq c d || !Nat.beq (ZZ.clA c) (ZZ.clA d))=true:=TR.all_of h h2
  rw [e,beqE c d,beqE (ZZ.clA d) (ZZ.clA d),decide_eq_true rfl,Bool.not_true,Bool.or_false,decide_eq_true_eq] at h
  exact h
 sys:=Option.isSome_iff_exists.mp (f_sys w.params)
 cls c cd h k:=by
  have h:=(cls2 w.params h).2.2 k
  unfold f1 at h
  simp only [Bool.and_eq_true] at h
  exact h.1.1.1.1.1
 sy1:=by have h:=f_sym w.params;rw [Bool.and_eq_true,beq_iff_eq,beq_iff_eq] at h;exact h.1
 sy2:=by have h:=f_sym w.params;rw [Bool.and_eq_true,beq_iff_eq,beq_iff_eq] at h;exact h.2
 clo l a la h:=by obtain⟨o,fdat,_,_,_,_,_,_,h1,h2,_⟩:=h;exact⟨o,fdat,h1,h2⟩
 fns i h:=by
  have hm:i∈[191,205,204,207] ++ fnT.toL.map (fun (p:Nat × FD)=>p.1):=by
   rw [Bool.or_eq_true] at h
   rcases h with h | h
   ·obtain⟨fd,q⟩:=Option.isSome_iff_exists.mp h
    exact List.mem_append_right _ (List.mem_map.mpr ⟨_,TR.toL_of q,rfl⟩)
   ·exact List.mem_append_left _ (by simpa using h)
  have:=List.all_eq_true.mp (f_fns w.params) i hm
  rwa [Bool.and_eq_true] at this
 exc c cd h k:=(cls2 w.params h).2.1 k
 cks c cd h:=by
  have h:=(cls2 w.params h).1
  unfold f2 at h
  rw [Bool.and_eq_true] at h
  exact h.1
 anc c cd d h e:=by
  have h:=(cls2 w.params h).1
  unfold f2 at h
  rw [Bool.and_eq_true] at h
  obtain⟨dd,q⟩:=all_cl h.2 e
  exact eq_of_beq q
theorem kc_ok(w:World):KC ZZ w where
 toKB:=kb_ok w
 one c cd d h k e:=by
  have h:=(cls2 w.params h).2.2 k
  unfold f1 at h
  simp only [Bool.and_eq_true] at h
  obtain⟨dd,q⟩:=all_cl h.1.2 e
  exact eq_of_beq q
 kx c cd h k:=by
  have h:=(cls2 w.params h).2.2 k
  unfold f1 at h
  simp only [Bool.and_eq_true] at h
  exact h.1.1.1.1.2
 ots c cd h k:=by
  have h:=(cls2 w.params h).2.2 k
  unfold f1 at h
  simp only [Bool.and_eq_true,beq_iff_eq] at h
  exact h.1.1.2
 typ T hT d e:=by
  have h:=List.all_eq_true.mp (f_typ w.params) T hT
  rw [Bool.and_eq_true,Bool.and_eq_true] at h
  obtain⟨dd,q⟩:=all_cl h.1.1 e
  exact eq_of_beq q
 tts T hT:=by
  have h:=List.all_eq_true.mp (f_typ w.params) T hT
  rw [Bool.and_eq_true,Bool.and_eq_true] at h
  exact eq_of_beq h.2
theorem f_exc2:(clT.toL.all fun p=>!Nat.beq p.2.kind 2 || (Nat.beq p.1 0 && p.2.fields == [3,4]) || (Nat.beq p.1 17 && p.2.fields == [97,70]))=true:=by kernel_rfl
theorem mk_exc(w:World):MkExc ZZ w:=by
 have pc:=x_cls w.params
 have pn:=x_ns w.params
 have pd:=x_dat w.params
 have pb:=x_bod w.params
 have pk:=x_chk w.params
 simp only [List.cons.injEq,and_true] at pc pn pd pb
 rw [Bool.and_eq_true] at pk
 refine mkExc fun c cd x1 x2 h k hf=>?_
 have h:(!Nat.beq cd.kind 2 || (Nat.beq c 0 && cd.fields == [3,4]) || (Nat.beq c 17 && cd.fields == [97,70]))=true:=TR.all_of f_exc2 h
 rw [k,hf,beqE c 0,beqE c 17] at h
 simp only [Bool.or_eq_true,Bool.and_eq_true,decide_eq_true_eq,beq_iff_eq,List.cons.injEq,and_true] at h
 rcases h with (h | ⟨rfl,rfl,rfl⟩) | ⟨rfl,rfl,rfl⟩
 ·cases h
 ·exact excK_of pc.1 pn.1 pd.1 pn.2.2.1 pd.2.2.1 pb.1 pk.1
 ·exact excK_of pc.2 pn.2.1 pd.2.1 pn.2.2.2 pd.2.2.2 pb.2 pk.2
theorem trBody(w:World){sc:Scp}{f:Nat}{b:List Stmt}{m:SM}(h:trSL (trS gT sc f) b=some m):SndS ZZ w sc m b:=trSL_ok (trS_ok (kb_ok w) (mk_exc w) (GOk_gT w) f) b m h
theorem fdAt_ok{P:Params}{i:Nat}{fd:FuncData}(h:fdAt P i=some fd):∃ o,(KF P).lookup (ZZ.fnA i)=some o∧o.data=.func fd:=by
 unfold fdAt at h
 cases ho:(KF P).lookup (ZZ.fnA i) with
 | none=>rw [ho] at h;cases h
 | some o =>
  rw [ho] at h
  obtain⟨c,d,dt,sl⟩:=o
  cases dt with
  | func f=>exact⟨_,rfl,congrArg Data.func (Option.some.inj h)⟩
  | _=>cases h
theorem refV_ok{v:Value}{k:Addr→Bool}(e:refV v k=true):∃ a,v=.ref a∧k a=true:=by cases v with | ref a=>exact⟨a,rfl,e⟩ | _=>exact ff e
theorem tup1_ok{P:Params}{T:Addr}{k:Value→Bool}(e:tup1 P T k=true):∃ od mm d,(KF P).lookup T=some od∧od.data=.seq #[d] mm∧k d=true:=by
 unfold tup1 at e
 cases h:(KF P).lookup T with
 | none=>rw [h] at e;cases e
 | some o =>
  rw [h] at e
  obtain⟨c,d,dt,sl⟩:=o
  cases dt with
  | seq ds mm =>
   obtain⟨l⟩:=ds
   cases l with
   | nil=>cases e
   | cons x r=>cases r with
    | nil=>exact⟨_,mm,x,rfl,rfl,e⟩
    | cons=>cases e
  | _=>cases e
theorem fn_ok(w:World){i:Nat}{fd:FD}(e:fnT.get i=some fd):FnJ ZZ w (ZZ.fnA i) fd:=by
 have h:fnOk w.params i fd=true:=TR.all_of (f_fn w.params) e
 have hb:=List.map_inj_left.mp (f_body w.params)
 have hb:=hb (i,fd) (TR.toL_of e)
 dsimp only at hb
 unfold fnOk at h
 unfold bodyAt at hb
 obtain⟨fdat,hd,hb⟩:=bindE hb
 rw [hd] at h
 obtain⟨o,ho,hfd⟩:=fdAt_ok hd
 obtain⟨b,hbo,hb⟩:∃ b,fdat.body=.stmts b∧trSL (trS gT fdat.scope.names 30) b=some fd.body:=by
  cases hbo:fdat.body with
  | stmts b=>rw [hbo] at hb;exact⟨b,rfl,hb⟩
  | _=>rw [hbo] at hb;cases hb
 simp only [Bool.and_eq_true,Bool.not_eq_true',beq_iff_eq,List.isEmpty_iff] at h
 obtain⟨⟨⟨⟨⟨⟨⟨⟨a1,a2⟩,a3⟩,a4⟩,a5⟩,a6⟩,a7⟩,a8⟩,a9⟩:=h
 obtain⟨pp,pl⟩:=parsOk_ok a8
 refine ⟨o,_,b,ho,hfd,hbo,a1,a2,a3,a4,a5,a6,a7,pp,pl,?_,trBody w hb⟩
 cases q:fd.dfl with
 | nil=>rw [q] at a9;exact .inl ⟨rfl,eq_of_beq a9⟩
 | cons v r =>
  rw [q] at a9
  cases r with
  | cons=>exact ff a9
  | nil =>
   obtain⟨T,hT,a9⟩:=refV_ok a9
   rw [Bool.and_eq_true,Bool.not_eq_true'] at a9
   obtain⟨od,mm,d,hod,hds,b2⟩:=tup1_ok a9.2
   have hne:fd.prms≠[]:=fun z=>by rw [z] at a9;cases a9.1
   exact .inr ⟨v,d,T,od,mm,fd.prms.dropLast,fd.prms.getLast hne,rfl,(List.dropLast_concat_getLast hne).symm,hT,hod,hds,b2⟩
theorem tab_ok(w:World)(prm:PrimOk ZZ w):TabOk ZZ w where
 toKC:=kc_ok w
 fn i fd e:=fn_ok w e
 mks c cd i h k hi:=by
  have h:=(cls2 w.params h).2.2 k
  unfold f1 at h
  rw [Bool.and_eq_true,hi] at h
  have:=h.2
  simp only [Bool.and_eq_true,beq_iff_eq] at this
  exact⟨this.1.1,this.1.2,this.2⟩
 prm:=prm
theorem frz_ok:FrzOk:=fun c cd i fd h k hi hf=>by
 have h2:(!Nat.beq cd.kind 1 || ((cd.fields.all fun x=>memN cd.flds x) && !cd.fields.contains 2))=true:=TR.all_of f_frz h
 rw [k] at h2
 have h2:((cd.fields.all fun x=>memN cd.flds x) && !cd.fields.contains 2)=true:=h2
 rw [Bool.and_eq_true,List.all_eq_true,Bool.not_eq_true',← Bool.not_eq_true,List.contains_iff_mem] at h2
 have key:∀ l:List (Nat × CD),(l.filterMap fun p=>match Nat.beq p.2.kind 1 with | true=>some ((assoc p.2.mths nInit).bind fun i=>(fnT.get i).map fun fd=>(fd.prms.head?,fd.body)) | false=>none)=(l.filterMap fun p=>match Nat.beq p.2.kind 1 with | true=>some (some (some 2,initB p.2.fields)) | false=>none)→(c,cd)∈l→fd.prms.head?=some 2∧fd.body=initB cd.fields:=fun l=>by
  induction l with
  | nil=>intro _ h;cases h
  | cons p r ih =>
   intro e hm
   rw [List.filterMap_cons,List.filterMap_cons] at e
   cases q:Nat.beq p.2.kind 1 with
   | false =>
    rw [q] at e
    rcases List.mem_cons.mp hm with rfl | hm
    ·rw [k] at q;cases q
    ·exact ih e hm
   | true =>
    rw [q] at e
    obtain⟨e1,e2⟩:=List.cons.inj e
    rcases List.mem_cons.mp hm with rfl | hm
    ·have e1:((assoc cd.mths nInit).bind fun i=>(fnT.get i).map fun fd=>(fd.prms.head?,fd.body))=some (some 2,initB cd.fields):=e1
     rw [hi] at e1
     have e1:(fnT.get i).map (fun fd=>(fd.prms.head?,fd.body))=some (some 2,initB cd.fields):=e1
     rw [hf] at e1
     exact Prod.mk.inj (Option.some.inj e1)
    ·exact ih e2 hm
 obtain⟨e1,e2⟩:=key _ f_frz2 (TR.toL_of h)
 refine ⟨?_,e2,h2.1,h2.2⟩
 cases hp:fd.prms with
 | nil=>rw [hp] at e1;cases e1
 | cons a r=>rw [hp] at e1;cases e1;exact⟨r,rfl⟩
theorem ob_ok:ObOk:=fun c cd i h k hi=>by
 have h:(!Nat.beq cd.kind 3 || (Nat.beq c 40 && assoc cd.mths nInit == some 190))=true:=TR.all_of f_ob h
 rw [k,hi,beqE c 40] at h
 simp only [Bool.or_eq_true,Bool.and_eq_true,decide_eq_true_eq,beq_iff_eq,Option.some.injEq] at h
 rcases h with h | h
 ·cases h
 ·exact h
noncomputable def deedF:FuncData:={ (default:FuncData) with params:=MH.fnPar deedSt,scope:=MH.fnScope deedSt }
noncomputable def deedN:Scp:=(MH.fnScope deedSt).names
theorem f_deed:(!(MH.fnScope deedSt).isCoroutine && !(MH.fnScope deedSt).isGenerator && (MH.fnScope deedSt).kind == .function && parsOk deedF FDeed.prms && deedN.all (fun p=>!(p.1 == nmS FDeed.name && p.2 == .cell)) && deedN.lookup (nmS FDeed.name) == some .free)=true:=by kernel_rfl
theorem f_deedB:trSL (trS gT deedN 30) (MH.fnBody deedSt)=some FDeed.body:=by kernel_rfl
theorem clo_ok(w:World):CloOk ZZ w:=fun l a la h=>by
 obtain⟨o,fdat,c,oc,cc,occ,vs,t,h1,h2,h3,h4,h5,h6,h7,h8,h9,h10,h11,h12,h13,h14,h15⟩:=h
 have f:=f_deed
 simp only [Bool.and_eq_true,Bool.not_eq_true',beq_iff_eq,List.all_eq_true] at f
 obtain⟨⟨⟨⟨⟨a1,a2⟩,a3⟩,a4⟩,a5⟩,a6⟩:=f
 obtain⟨pp,pl⟩:=parsOk_ok a4
 refine ⟨o,fdat,_,c,oc,cc,occ,vs,t,h1,h2,h3,by rw [h4];exact a1,by rw [h4];exact a2,by rw [h4];exact a3,h6,h7,h8,h9,h10,h11,h12,h13,h14,?_,h15,fun x hx=>?_,fun hm=>?_,by rw [h4];exact a6,by rw [h4];exact trBody w f_deedB⟩
 ·obtain⟨p1,p2,p3,p4,p5,p6⟩:=pp
  rw [show deedF.params=fdat.params from h5.symm] at p1 p2 p3 p4 p5
  exact⟨p1,p2,p3,p4,p5,p6⟩
 ·rw [h4];exact (pl x hx).2
 ·rw [h4] at hm
  have:=a5 _ hm
  simp at this
theorem all_ok(w:World)(prm:PrimOk ZZ w):AllOk ZZ w:=⟨tab_ok w prm,frz_ok,ob_ok,clo_ok w⟩
noncomputable section
noncomputable def andB(c b:Bool):Bool:=@Bool.rec (fun _=>Bool) false b c
noncomputable def C.same(a b:C):Bool:=match a with
 | .none=>(match b with | .none=>true | _=>false)
 | .int x=>(match b with | .int y=>eqB x y | _=>false)
 | .str x=>(match b with | .str y=>Nat.beq x y | _=>false)
 | .num i c=>(match b with | .num j d=>andB (Nat.beq i j) (Nat.beq c d) | _=>false)
 | .fn x=>(match b with | .fn y=>Nat.beq x y | _=>false)
 | .clo x=>(match b with | .clo y=>Nat.beq x y | _=>false)
 | .scr=>(match b with | .scr=>true | _=>false)
 | _=>false
theorem andB_ok{c b:Bool}(e:andB c b=true):c=true∧b=true:=brecT e
theorem C.same_eq{a b:C}(h:C.same a b=true):a=b:=by
 cases a with
 | none=>cases b with | none=>rfl | _=>exact ff h
 | int x=>cases b with | int y=>exact congrArg C.int (beqI _ _ h) | _=>exact ff h
 | str x=>cases b with | str y=>exact congrArg C.str (beqT h) | _=>exact ff h
 | num i c=>cases b with
  | num j d=>obtain⟨h1,h2⟩:=andB_ok h;rw [beqT h1,beqT h2]
  | _=>exact ff h
 | fn x=>cases b with | fn y=>exact congrArg C.fn (beqT h) | _=>exact ff h
 | clo x=>cases b with | clo y=>exact congrArg C.clo (beqT h) | _=>exact ff h
 | scr=>cases b with | scr=>rfl | _=>exact ff h
 | _=>exact ff h
noncomputable def V.same(p:V):V→Bool:=@V.rec (fun _=>V→Bool) (fun _=>List V→Bool) (fun c q=>match q with | .a d=>C.same c d | _=>false) (fun i q=>match q with | .ref j=>Nat.beq i j | _=>false) (fun c _ ih q=>match q with | .obj d gs=>andB (Nat.beq c d) (ih gs) | _=>false)
 (fun _ ih q=>match q with | .tup gs=>ih gs | _=>false) (fun _ _ _ _=>false) (fun _ _ _ _=>false) (fun q=>match q with | []=>true | _=>false) (fun _ _ a b q=>match q with | x :: r=>andB (a x) (b r) | []=>false) p
noncomputable def V.sameL(p:List V):List V→Bool:=@V.rec_1 (fun _=>V→Bool) (fun _=>List V→Bool) (fun c q=>match q with | .a d=>C.same c d | _=>false) (fun i q=>match q with | .ref j=>Nat.beq i j | _=>false) (fun c _ ih q=>match q with | .obj d gs=>andB (Nat.beq c d) (ih gs) | _=>false)
 (fun _ ih q=>match q with | .tup gs=>ih gs | _=>false) (fun _ _ _ _=>false) (fun _ _ _ _=>false) (fun q=>match q with | []=>true | _=>false) (fun _ _ a b q=>match q with | x :: r=>andB (a x) (b r) | []=>false) p
theorem V.same_eq2:(∀ p q:V,V.same p q=true→p=q)∧∀ p q:List V,V.sameL p q=true→p=q:=by
 refine V.ind (fun c q h=>?_) (fun i q h=>?_) (fun c fs ih q h=>?_) (fun fs ih q h=>?_) (fun _ _ _ _ h=>ff h) (fun _ _ _ _ h=>ff h) (fun q h=>?_) (fun x r ih1 ih2 q h=>?_)
 ·cases q with | a d=>exact congrArg V.a (C.same_eq h) | _=>exact ff h
 ·cases q with | ref j=>exact congrArg V.ref (beqT h) | _=>exact ff h
 ·cases q with | obj d gs=>obtain⟨h1,h2⟩:=andB_ok h;rw [beqT h1,ih gs h2] | _=>exact ff h
 ·cases q with | tup gs=>exact congrArg V.tup (ih gs h) | _=>exact ff h
 ·cases q with | nil=>rfl | cons _ _=>exact ff h
 ·cases q with | nil=>exact ff h | cons y t=>obtain⟨h1,h2⟩:=andB_ok h;rw [ih1 y h1,ih2 t h2]
theorem V.same_eq{p q:V}(h:V.same p q=true):p=q:=V.same_eq2.1 p q h
theorem V.sameL_eq{p q:List V}(h:V.sameL p q=true):p=q:=V.same_eq2.2 p q h
noncomputable def FL.same(a:FL):FL→Bool:=@FL.rec (fun _=>FL→Bool) (fun b=>match b with | .nil=>true | _=>false) (fun k v _ ih b=>match b with | .cons j u t=>andB (Nat.beq k j) (andB (V.same v u) (ih t)) | .nil=>false) a
theorem FL.same_eq{a b:FL}(h:FL.same a b=true):a=b:=by
 induction a generalizing b with
 | nil=>cases b with | nil=>rfl | cons=>exact ff h
 | cons k v r ih=>cases b with
  | nil=>exact ff h
  | cons j u t=>obtain⟨h1,h⟩:=andB_ok h;obtain⟨h2,h⟩:=andB_ok h;rw [beqT h1,V.same_eq h2,ih h]
noncomputable def keptIn(S:HT)(i:Nat):Bool:=match S.get i with | .gone=>false | _=>true
noncomputable def V.kept(S:HT)(v:V):Bool:=v.refs.all fun p=>andB (Nat.beq p.1 0) (keptIn S p.2)
noncomputable def FL.kept(S:HT)(l:FL):Bool:=@FL.rec (fun _=>Bool) true (fun _ v _ ih=>andB (V.kept S v) ih) l
noncomputable def okUp(v:V):Bool:=match v with | .a (.upto m)=>Nat.ble m 5000 | _=>asNat v fun m=>Nat.ble m 5000
noncomputable def okC(S:HT)(v:V)(c:C):Bool:=match c with
 | .unk=>true
 | .upto k=>andB (Nat.beq k 0) (okUp v)
 | _=>andB (V.same v (.a c)) (V.kept S (.a c))
noncomputable def okV(S:HT)(v u:V):Bool:=match u with
 | .a c=>okC S v c
 | _=>andB (V.same v u) (V.kept S u)
noncomputable def okF(S:HT)(a:FL):FL→Bool:=@FL.rec (fun _=>FL→Bool) (fun b=>match b with | .nil=>true | _=>false) (fun k v _ ih b=>match b with | .cons j u t=>andB (Nat.beq k j) (andB (okV S v u) (ih t)) | .nil=>false) a
noncomputable def okO(S:HT)(o u:O):Bool:=match u with
 | .gone=>true
 | .inst d gs=>(match o with | .inst c fs=>andB (Nat.beq c d) (okF S fs gs) | _=>false)
 | .lst q us=>lstAt o fun p vs=>andB (Nat.beq q 0) (andB (Nat.beq p 0) (andB (V.sameL vs us) (us.all (V.kept S))))
 | .dic q gs=>dicAt o fun k fs=>andB (@Bool.rec (fun _=>Bool) (andB (Nat.beq k 0) (Nat.beq q 1)) true (Nat.beq k q)) (andB (FL.same fs gs) (FL.kept S gs))
 | .deck=>(match o with | .deck=>true | _=>false)
 | .obar=>(match o with | .obar=>true | _=>false)
 | .ntab d=>andB (Nat.beq d 1) (match o with | .ntab _=>true | _=>false)
 | .sdic _ _=>false
noncomputable def isNum(v:V):Bool:=match v with | .a (.num _ _)=>true | _=>false
noncomputable def numL(S H:HT)(v:V):Bool:=asRef v fun j=>@Bool.rec (fun _=>Bool) (lst0 (H.get j) fun xs=>xs.all isNum) false (keptIn S j)
noncomputable def lstOf(H:HT)(v:V):List V:=match v with
 | .ref j=>(match H.get j with | .lst _ xs=>xs | _=>[])
 | _=>[]
noncomputable def sameN(H:HT)(p:List V):List V→Bool:=@List.rec V (fun _=>List V→Bool) (fun q=>match q with | []=>true | _=>false) (fun a _ ih q=>match q with | b :: t=>andB (V.sameL (lstOf H a) (lstOf H b)) (ih t) | []=>false) p
noncomputable def okN(S H:HT)(a b:Nat):Bool:=lstAt (H.get a) fun p vs=>lstAt (H.get b) fun q us =>
 andB (Nat.beq p q) (andB (Nat.ble p 1) (andB (vs.all (numL S H)) (andB (us.all (numL S H)) (sameN H vs us))))
noncomputable def wkS(S:HT)(m a b:Nat)(H:HT):Bool:=andB ((List.range m).all (fun i=>i == a || i == b || okO S (H.get i) (S.get i))) (okN S H a b)
end
section
variable{Z:SA}{w:World}{γ γ':Gh}{h h':Heap}{S H:HT}{s:Shared}{n m a b:Nat}
theorem okF_1{fs gs:FL}(h:okF S fs gs=true){x:Nat}{u:V}(e:gs.look x=some u):∃ v,fs.look x=some v∧okV S v u=true:=by
 induction fs generalizing gs with
 | nil=>cases gs with | nil=>cases e | cons=>exact ff h
 | cons k v r ih=>cases gs with
  | nil=>exact ff h
  | cons j t q =>
   obtain⟨h1,h⟩:=andB_ok h;obtain⟨h2,h⟩:=andB_ok h
   rw [FL.look_cons] at e ⊢
   rw [beqT h1]
   by_cases g:j=x
   ·rw [if_pos g] at e ⊢;cases e;exact⟨v,rfl,h2⟩
   ·rw [if_neg g] at e ⊢;exact ih h e
theorem okF_2{fs gs:FL}(h:okF S fs gs=true){x:Nat}{v:V}(e:fs.look x=some v):∃ u,gs.look x=some u:=by
 induction fs generalizing gs with
 | nil=>cases e
 | cons k v r ih=>cases gs with
  | nil=>exact ff h
  | cons j t q =>
   obtain⟨h1,h⟩:=andB_ok h;obtain⟨h2,h⟩:=andB_ok h
   rw [FL.look_cons] at e ⊢
   rw [beqT h1] at e
   by_cases g:j=x
   ·rw [if_pos g];exact⟨t,rfl⟩
   ·rw [if_neg g] at e ⊢;exact ih h e
theorem kept_look{gs:FL}(h:FL.kept S gs=true){x:Nat}{u:V}(e:gs.look x=some u):V.kept S u=true:=by
 induction gs with
 | nil=>cases e
 | cons k v r ih =>
  obtain⟨h1,h⟩:=andB_ok h
  rw [FL.look_cons] at e
  by_cases g:k=x
  ·rw [if_pos g] at e;cases e;exact h1
  ·rw [if_neg g] at e;exact ih h e
noncomputable abbrev KR(S:HT)(i:Nat × Nat):Prop:=i.1=0∧keptIn S i.2=true
theorem kept_of{u:V}(h:V.kept S u=true):∀ i∈u.refs,KR S i:=fun i hi=>by
 obtain⟨h1,h2⟩:=andB_ok (List.all_eq_true.mp h i hi)
 exact⟨beqT h1,h2⟩
theorem kept_L:∀ l:List V,l.all (V.kept S)=true→∀ i∈V.refsL l,KR S i:=by
 intro l
 induction l with
 | nil=>intro _ i hi;cases hi
 | cons v r ih =>
  intro e i hi
  rw [List.all_cons,Bool.and_eq_true] at e
  exact (List.mem_append.mp hi).elim (kept_of e.1 i) (ih e.2 i)
theorem okUp_ok{v:V}{rv:Value}(hb:γ'.bs=γ.bs + 5000)(hb2:γ.bs≤45000)(e:okUp v=true)(x:VR Z γ h v rv):VR Z γ' h (.a (.upto 0)) rv:=by
 have h5:γ'.bs≤50000:=by omega
 have nat:(asNat v fun m=>Nat.ble m 5000)=true→VR Z γ' h (.a (.upto 0)) rv:=fun e=>by
  obtain⟨m,t,rfl,e⟩:=asNat_ok e x
  have e:=Nat.le_of_ble_eq_true e
  exact .upto t (Int.natCast_nonneg _) (Int.ofNat_le.mpr (by omega)) h5
 cases v with
 | a c=>cases c with
  | upto m =>
   have e:=Nat.le_of_ble_eq_true e
   obtain⟨z,t,rfl,h1,h2,h3⟩:=x
   exact .upto t h1 (Int.le_trans h2 (Int.ofNat_le.mpr (by omega))) h5
  | _=>exact nat e
 | _=>exact nat e
theorem okV_ok(t:Tr (KR S) γ γ' h h)(hb:γ'.bs=γ.bs + 5000)(hb2:γ.bs≤45000){v u:V}{rv:Value}(e:okV S v u=true)(x:VR Z γ h v rv):VR Z γ' h u rv:=by
 have gen:andB (V.same v u) (V.kept S u)=true→VR Z γ' h u rv:=fun e=>by
  obtain⟨e1,e2⟩:=andB_ok e
  obtain rfl:=V.same_eq e1
  exact x.map t (kept_of e2)
 cases u with
 | a c=>cases c with
  | unk=>exact .unk _ x.handed
  | upto k=>obtain⟨e1,e2⟩:=andB_ok e;obtain rfl:=beqT e1;exact okUp_ok hb hb2 e2 x
  | _=>exact gen e
 | _=>exact gen e
theorem okO_ok(t:Tr (KR S) γ γ' h h)(hb:γ'.bs=γ.bs + 5000)(hb2:γ.bs≤45000){i:Nat}{o u:O}(k:∀ b p,γ'.own b=.obj i p↔γ.own b=.obj i p)(ho:γ'.obi=γ.obi)(hs:γ'.sg=γ.sg)(hn:γ'.nu=γ.nu)(hu:u≠.gone)(e:okO S o u=true)(x:ObjR Z w γ h i o):ObjR Z w γ' h i u:=by
 cases u with
 | gone=>exact absurd rfl hu
 | inst d gs =>
  cases o with
  | inst c fs =>
   obtain⟨ec,e1⟩:=andB_ok e
   obtain rfl:=beqT ec
   obtain⟨a,d,m,cd,h1,h2,h3,⟨o1,o2,o3⟩,g,nsd,⟨f1,f2⟩⟩:=x
   refine ⟨a,d,m,cd,h1,h2,fun x v q=>?_,⟨(k _ _).mpr o1,(k _ _).mpr o2,fun b p q=>o3 b p ((k _ _).mp q)⟩,g,nsd,⟨fun x v q=>?_,fun y rv q=>?_⟩⟩
   ·obtain⟨v',q,_⟩:=okF_1 e1 q;exact h3 x v' q
   ·obtain⟨v',q1,q2⟩:=okF_1 e1 q
    obtain⟨rv,r1,r2⟩:=f1 x v' q1
    exact⟨rv,r1,okV_ok t hb hb2 q2 r2⟩
   ·obtain⟨x,v,q1,q2⟩:=f2 y rv q
    obtain⟨u,q3⟩:=okF_2 e1 q1
    exact⟨x,u,q3,q2⟩
  | _=>exact ff e
 | lst q us =>
  obtain⟨p,vs,rfl,e⟩:=lstAt_spec e
  obtain⟨hq,e⟩:=andB_ok e
  obtain⟨hp,e⟩:=andB_ok e
  obtain⟨e1,e2⟩:=andB_ok e
  obtain rfl:=beqT hq
  obtain rfl:=beqT hp
  obtain rfl:=V.sameL_eq e1
  obtain⟨a,pre,ws,nn,⟨o1,o2⟩,g,pr,vr,l1,l2⟩:=x
  have pr0:pre=[]:=by unfold PreR at pr;rw [if_pos rfl] at pr;exact pr
  exact⟨a,pre,ws,nn,⟨(k _ _).mpr o1,fun b p q=>o2 b p ((k _ _).mp q)⟩,g,by unfold PreR;rw [if_pos rfl];exact pr0,vr.map t (kept_L _ e2),l1,l2⟩
 | dic q gs =>
  obtain⟨p,fs,rfl,e⟩:=dicAt_ok e
  obtain⟨e0,e⟩:=andB_ok e
  obtain⟨e1,e2⟩:=andB_ok e
  obtain rfl:=FL.same_eq e1
  obtain⟨a,kvs,⟨o1,o2⟩,D,⟨d1,d2,d3,d4,d5⟩⟩:=x
  refine ⟨a,kvs,⟨(k _ _).mpr o1,fun b p q=>o2 b p ((k _ _).mp q)⟩,D,⟨fun p hp=>?_,d2,fun s a v q1 q2=>?_,fun s a q1 q2=>?_,fun s v q1=>?_⟩⟩
  ·rw [hs,hn];exact d1 p hp
  ·rw [hs] at q1;rw [hn]
   obtain⟨rv,r1,r2⟩:=d3 s a v q1 q2
   exact⟨rv,r1,r2.map t (kept_of (kept_look e2 q2))⟩
  ·rw [hs] at q1;rw [hn]
   refine (d4 s a q1 q2).imp id fun⟨z1,z2⟩=>⟨?_,z2⟩
   rcases brec e0 with ⟨_,e0⟩ | ⟨e0,_⟩
   ·exact beqT (andB_ok e0).2
   ·rw [← beqT e0];exact z1
  ·rw [hs];exact d5 s v q1
 | deck =>
  cases o with
  | deck =>
   obtain⟨a,c,d,⟨o1,o2,o3,o4⟩,D⟩:=x
   exact⟨a,c,d,⟨(k _ _).mpr o1,(k _ _).mpr o2,(k _ _).mpr o3,fun b p q=>o4 b p ((k _ _).mp q)⟩,D⟩
  | _=>exact ff e
 | obar =>
  cases o with
  | obar =>
   obtain⟨a,d,lr,ld,m,rows,n,kvs,⟨o1,o2,o3,o4,o5⟩,ob,r1,r2,r3,r4,r5,r6,r7,r8,r9,r10,r11⟩:=x
   refine ⟨a,d,lr,ld,m,rows,n,kvs,⟨(k _ _).mpr o1,(k _ _).mpr o2,(k _ _).mpr o3,(k _ _).mpr o4,fun b p q=>o5 b p ((k _ _).mp q)⟩,ho.trans ob,r1,r2,r3,r4,r5,r6,r7,r8,r9,?_,?_⟩
   ·rw [hs];exact r10
   ·rw [hs,hn];exact r11
  | _=>exact ff e
 | ntab d =>
  obtain⟨ed,e⟩:=andB_ok e
  obtain rfl:=beqT ed
  cases o with
  | ntab d0 =>
   obtain⟨a,ob,⟨o1,o2⟩,g,z1,⟨more,z2,_⟩⟩:=x
   exact⟨a,ob,⟨(k _ _).mpr o1,fun b p q=>o2 b p ((k _ _).mp q)⟩,g,z1,⟨more,z2,fun z=>nomatch z⟩⟩
  | _=>exact ff e
 | sdic _ _=>exact ff e
end
noncomputable def numV(γ:Gh):V→Int
 | .a (.num i c)=>(γ.rho i).getD 0 + c
 | _=>0
noncomputable section
noncomputable def Gh.weak(γ:Gh)(S:HT)(m:Nat)(zss:List (List Int)):Gh where
 own b:=match γ.own b with | .obj i p=>(match keptIn S i with | true=>.obj i p | false=>.free) | o=>o
 sg:=γ.sg
 nu:=γ.nu
 rho i:=if i < m then γ.rho i else none
 pre p:=if p=1 then zss else if p=7 then List.replicate (γ.bs + 5000) [] else γ.pre p
 scr:=γ.scr
 obi:=γ.obi
end
section
variable{Z:SA}{w:World}{γ γ':Gh}{h h':Heap}{S H:HT}{s:Shared}{n m a b:Nat}{zss:List (List Int)}
theorem weak_obj{c:Addr}{i p:Nat}:(γ.weak S m zss).own c=.obj i p↔γ.own c=.obj i p∧keptIn S i=true:=by
 show (match γ.own c with | .obj i p=>(match keptIn S i with | true=>Ow.obj i p | false=>.free) | o=>o)=_↔_
 cases e:γ.own c with
 | obj j q =>
  show (match keptIn S j with | true=>Ow.obj j q | false=>.free)=_↔_
  cases g:keptIn S j with
  | true=>exact⟨fun z=>(by cases z;exact⟨rfl,g⟩),fun z=>z.1⟩
  | false=>exact⟨fun z=>(by cases z),fun z=>(by have z1:=z.1;cases z1;rw [g] at z;cases z.2)⟩
 | _=>exact⟨fun z=>(by cases z),fun z=>(by cases z.1)⟩
theorem weak_drop{c:Addr}{i p:Nat}(e:γ.own c=.obj i p)(g:keptIn S i=false):(γ.weak S m zss).own c=.free:=by
 show (match γ.own c with | .obj i p=>(match keptIn S i with | true=>Ow.obj i p | false=>.free) | o=>o)=_
 rw [e]
 show (match keptIn S i with | true=>Ow.obj i p | false=>.free)=_
 rw [g]
theorem weak_same{c:Addr}(e:∀ i p,γ.own c≠.obj i p):(γ.weak S m zss).own c=γ.own c:=by
 show (match γ.own c with | .obj i p=>(match keptIn S i with | true=>Ow.obj i p | false=>.free) | o=>o)=_
 cases q:γ.own c with
 | obj i p=>exact absurd q (e i p)
 | _=>rfl
theorem weak_free{c:Addr}(e:γ.own c=.free):(γ.weak S m zss).own c=.free:=(weak_same (by rw [e];exact fun _ _=>Ow.noConfusion)).trans e
theorem weak_bs:(γ.weak S m zss).bs=γ.bs + 5000:=by
 show (if 7=1 then zss else if 7=7 then List.replicate (γ.bs + 5000) [] else γ.pre 7).length=_
 rw [if_neg (by decide),if_pos rfl,List.length_replicate]
theorem weak_tr:Tr (KR S) γ (γ.weak S m zss) h h where
 free b o e f:=⟨e,weak_free f⟩
 exn b o fs e f d:=⟨(weak_same (by rw [f];exact fun _ _=>Ow.noConfusion)).trans f,fs,by rw [e];cases o;dsimp only at d;rw [d]⟩
 obj b i k e:=weak_obj.mpr ⟨e,k.2⟩
 sg s a e:=⟨e,rfl⟩
 rho i r k e:=nomatch k.1
 bs k:=nomatch k.1
theorem numL_ok(R:Rel Z w γ H n s){v:V}{rv:Value}(e:numL S H v=true)(x:VR Z γ s.heap v rv):IntsAt (γ.weak S m zss) s.heap rv ((lstOf H v).map (numV γ)):=by
 obtain⟨i,rfl,e⟩:=asRef_ok e
 obtain⟨c,rfl,o⟩:=x
 obtain⟨e1,e⟩:=brecF e
 obtain⟨xs,g,e2⟩:=lst0_spec e
 have hl:lstOf H (.ref i)=xs:=by show (match H.get i with | .lst _ xs=>xs | _=>[])=xs;rw [g]
 rw [hl]
 obtain⟨ws,k,g1,v1,l1⟩:=R.lst0 g o
 refine ⟨c,ws.toArray,k,rfl,weak_drop o e1,g1,by rw [List.length_map];exact v1.len.symm,fun j wv z h1 h2=>?_⟩
 rw [List.getElem?_map,Option.map_eq_some_iff] at h2
 obtain⟨u,h2,rfl⟩:=h2
 obtain⟨hj,h1⟩:=List.getElem?_eq_some_iff.mp h1
 obtain⟨u',hu',vu⟩:=v1.get j hj
 rw [h2] at hu';obtain rfl:=Option.some.inj hu'
 have vu:VR Z γ s.heap u wv:=h1 ▸ vu
 have hu:=List.all_eq_true.mp e2 u (List.mem_of_getElem? h2)
 cases u with
 | a c=>cases c with
  | num i' c' =>
   obtain⟨r,t,r1,rfl⟩:=vu
   exact⟨t,congrArg (fun y=>Value.int (y + c') t) (show r=(γ.rho i').getD 0 by rw [r1];rfl)⟩
  | _=>exact ff hu
 | _=>exact ff hu
end
noncomputable def valsN(γ:Gh)(H:HT)(vs:List V):List (List Int):=vs.map fun v=>(lstOf H v).map (numV γ)
theorem sameN_ok{γ:Gh}{H:HT}{vs us:List V}(h:sameN H vs us=true):valsN γ H vs=valsN γ H us:=by
 induction vs generalizing us with
 | nil=>cases us with | nil=>rfl | cons=>exact ff h
 | cons x r ih=>cases us with
  | nil=>exact ff h
  | cons y t =>
   obtain⟨h1,h2⟩:=andB_ok h
   show (lstOf H x).map (numV γ) :: valsN γ H r=(lstOf H y).map (numV γ) :: valsN γ H t
   rw [V.sameL_eq h1,ih h2]
section
variable{Z:SA}{w:World}{γ γ':Gh}{h h':Heap}{S H:HT}{s:Shared}{n m a b o:Nat}{zss:List (List Int)}
noncomputable def preL(γ:Gh)(p:Nat):List (List Int):=if p=0 then [] else γ.pre p
theorem notes_ok(R:Rel Z w γ H n s){i p:Nat}{vs:List V}(hi:keptIn S i=true)(hp:p=0∨p=1)(e:H.get i=.lst p vs)(hv:vs.all (numL S H)=true)(hl:(preL γ p).length≤900):ObjR Z w (γ.weak S m (preL γ p ++ valsN γ H vs)) s.heap i (.lst 1 []):=by
 have x:=R.obj i
 rw [e] at x
 obtain⟨ad,pre,ws,nn,⟨o1,o2⟩,g,pr,vr,l1,l2⟩:=x
 have hpre:pre.length=(preL γ p).length∧∀ (i:Nat) (rv:Value) (zs:List Int),pre[i]?=some rv→(preL γ p)[i]?=some zs→IntsAt γ s.heap rv zs:=by
  unfold PreR at pr
  unfold preL
  by_cases q:p=0
  ·rw [if_pos q] at pr ⊢
   subst pr
   exact⟨rfl,fun i rv zs h=>by cases h⟩
  ·rw [if_neg q] at pr ⊢
   exact pr
 obtain⟨q1,q2⟩:=hpre
 refine ⟨ad,pre ++ ws,[],nn,⟨weak_obj.mpr ⟨o1,hi⟩,fun c p' q=>o2 c p' (weak_obj.mp q).1⟩,by rw [List.append_nil];exact g,?_,.nil,by rw [List.length_append];omega,by simp⟩
 unfold PreR
 rw [if_neg (by decide)]
 show (pre ++ ws).length=(preL γ p ++ valsN γ H vs).length∧∀ (i:Nat) (rv:Value) (zs:List Int),(pre ++ ws)[i]?=some rv→(preL γ p ++ valsN γ H vs)[i]?=some zs→_
 refine ⟨by rw [List.length_append,List.length_append,q1];unfold valsN;rw [List.length_map,vr.len],fun i rv zs h1 h2=>?_⟩
 rcases Nat.lt_or_ge i pre.length with q | q
 ·rw [List.getElem?_append_left q] at h1
  rw [List.getElem?_append_left (by omega)] at h2
  obtain⟨c,us,k,a1,a2,a3,a4,a5⟩:=q2 i rv zs h1 h2
  exact⟨c,us,k,a1,weak_free a2,a3,a4,a5⟩
 ·rw [List.getElem?_append_right q] at h1
  rw [List.getElem?_append_right (by omega),← q1] at h2
  unfold valsN at h2
  rw [List.getElem?_map,Option.map_eq_some_iff] at h2
  obtain⟨v,h2,rfl⟩:=h2
  obtain⟨hj,h1⟩:=List.getElem?_eq_some_iff.mp h1
  obtain⟨u',hu',vu⟩:=vr.get _ hj
  rw [h2] at hu';obtain rfl:=Option.some.inj hu'
  rw [h1] at vu
  exact numL_ok R (List.all_eq_true.mp hv v (List.mem_of_getElem? h2)) vu
theorem weaken(hb:∀ i,m≤i→S.get i=.gone)(Sa:S.get a=.lst 1 [])(Sb:S.get b=.lst 1 [])(So:S.get o=.obar)(R:Rel Z w γ H n s)(hw:wkS S m a b H=true)(h1:γ.bs≤45000)(h2:(γ.pre 1).length≤900) :
  ∃ zss,Rel Z w (γ.weak S m zss) S m s∧zss.length≤(γ.pre 1).length + 100:=by
 obtain⟨hw,hn⟩:=andB_ok hw
 rw [List.all_eq_true] at hw
 have ka:keptIn S a=true:=by unfold keptIn;rw [Sa]
 have kb:keptIn S b=true:=by unfold keptIn;rw [Sb]
 have ko:keptIn S o=true:=by unfold keptIn;rw [So]
 obtain⟨p,vs,ea,hn⟩:=lstAt_spec hn
 obtain⟨q,us,eb,hn⟩:=lstAt_spec hn
 obtain⟨hpq,hn⟩:=andB_ok hn
 obtain⟨hp,hn⟩:=andB_ok hn
 obtain⟨hv,hn⟩:=andB_ok hn
 obtain⟨hu,hs⟩:=andB_ok hn
 obtain rfl:=beqT hpq
 have hp:p=0∨p=1:=by have:=Nat.le_of_ble_eq_true hp;omega
 have hl:(preL γ p).length≤(γ.pre 1).length:=by
  unfold preL
  rcases hp with rfl | rfl
  ·rw [if_pos rfl];exact Nat.zero_le _
  ·rw [if_neg (by decide)];exact Nat.le_refl _
 have la:=notes_ok (m:=m) R ka hp ea hv (by omega)
 have lb:=notes_ok (m:=m) R kb hp eb hu (by omega)
 rw [← sameN_ok hs] at lb
 have hvl:vs.length≤100:=by
  have x:=R.obj a
  rw [ea] at x
  obtain⟨_,_,ws,_,_,_,_,vr,_,l2⟩:=x
  rw [vr.len];exact l2
 generalize hz:preL γ p ++ valsN γ H vs=zss at la lb
 have hzl:zss.length≤(γ.pre 1).length + 100:=by
  rw [← hz,List.length_append];unfold valsN;rw [List.length_map];omega
 refine ⟨zss,?_,hzl⟩
 have t:Tr (KR S) γ (γ.weak S m zss) s.heap s.heap:=weak_tr
 have lt:∀ i,keptIn S i=true→i < m:=fun i k=>by
  rcases Nat.lt_or_ge i m with q | q
  ·exact q
  ·unfold keptIn at k;rw [hb i q] at k;cases k
 have ok:∀ i,keptIn S i=true→i≠a→i≠b→okO S (H.get i) (S.get i)=true:=fun i k n1 n2=>by
  have:=hw i (List.mem_range.mpr (lt i k))
  rw [beq_eq_false_iff_ne.mpr n1,beq_eq_false_iff_ne.mpr n2] at this
  exact this
 have oa:o≠a:=fun z=>by rw [z,Sa] at So;cases So
 have ob:o≠b:=fun z=>by rw [z,Sb] at So;cases So
 have hobi:γ.obi=some o:=by
  have e:=ok o ko oa ob
  rw [So] at e
  have x:=R.obj o
  cases g:H.get o with
  | obar=>rw [g] at x;obtain⟨_,_,_,_,_,_,_,_,_,x,_⟩:=x;exact x
  | _=>rw [g] at e;cases e
 refine ⟨R.st,fun c ob e=>weak_free (R.stf c ob e),fun c q=>R.bnd c fun z=>q (weak_free z),fun i=>?_,fun i q=>⟨hb i q,?_⟩,⟨fun s' c e=>?_,R.sym.inj,R.sym.uniq,R.sym.nil,R.sym.tee⟩,fun i e=>?_,R.sym0,R.lim,weak_free R.limf,R.gens,R.tkn⟩
 ·cases k:keptIn S i with
  | false =>
   have:S.get i=.gone:=by
    unfold keptIn at k
    split at k
    ·assumption
    ·cases k
   rw [this]
   exact fun c p e=>by have:=(weak_obj.mp e).2;rw [k] at this;cases this
  | true =>
   by_cases n1:i=a
   ·rw [n1,Sa];exact la
   ·by_cases n2:i=b
    ·rw [n2,Sb];exact lb
    ·exact okO_ok t weak_bs h1 (fun c p=>⟨fun q=>(weak_obj.mp q).1,fun q=>weak_obj.mpr ⟨q,k⟩⟩) rfl rfl rfl (fun z=>by unfold keptIn at k;rw [z] at k;cases k) (ok i k n1 n2) (R.obj i)
 ·show (if i < m then γ.rho i else none)=none
  rw [if_neg (Nat.not_lt.mpr q)]
 ·obtain⟨x1,x2,d,mm,t1,t2,x3,x4,x5,x6,x7,x8⟩:=R.sym.at_ s' c e
  exact⟨x1,weak_free x2,d,mm,t1,t2,x3,weak_free x4,x5,x6,x7,x8⟩
 ·have e:γ.obi=some i:=e
  rw [hobi] at e
  obtain rfl:=Option.some.inj e
  exact So
end
end Mine
end
section
open PySem renaming Expr→PX,Str→PS
open PySem
namespace Mine
noncomputable section
section
local macro_rules | `($n:num) => `(nat_lit $n)
noncomputable def lS:FL:=(.cons 256 (.a .scr) (.cons 228 (.ref 1) (.cons 231 (.ref 2) (.cons 257 (.ref 3) (.cons 224 (.ref 4) (.cons 229 (.ref 15) .nil))))))
end
section
local macro_rules | `($n:num) => `(nat_lit $n)
noncomputable def hS:HT:=(.node (.ntab 1) (.node .deck (.node (.lst 1 []) (.node (.dic 0 (.cons 179 (.obj 10 [(.a (.str 179)),(.a (.int (.ofNat 1))),(.a (.int (.ofNat 1))),(.a (.fn 136))]) (.cons 41 (.obj 10 [(.a (.str 41)),(.a (.int (.ofNat 1))),(.a (.int (.ofNat 1))),(.a (.fn 136))]) (.cons 180 (.obj 10 [(.a (.str 180)),(.a (.int (.ofNat 0))),(.a (.int (.negSucc 0))),(.a (.fn 135))]) (.cons 181 (.obj 10 [(.a (.str 181)),(.a (.int (.ofNat 2))),(.a (.int (.negSucc 0))),(.a (.fn 139))]) (.cons 183 (.obj 10 [(.a (.str 183)),(.a (.int (.ofNat 1))),(.a (.int (.negSucc 0))),(.a (.fn 140))]) (.cons 185 (.obj 10 [(.a (.str 185)),(.a (.int (.ofNat 1))),(.a (.int (.negSucc 0))),(.a (.fn 141))]) (.cons 187 (.obj 10 [(.a (.str 187)),(.a (.int (.ofNat 0))),(.a (.int (.negSucc 0))),(.a (.fn 144))]) (.cons 188 (.obj 10 [(.a (.str 188)),(.a (.int (.ofNat 0))),(.a (.int (.negSucc 0))),(.a (.fn 148))]) (.cons 190 (.obj 10 [(.a (.str 190)),(.a (.int (.ofNat 0))),(.a (.int (.negSucc 0))),(.a (.fn 149))]) (.cons 192 (.obj 10 [(.a (.str 192)),(.a (.int (.ofNat 1))),(.a (.int (.negSucc 0))),(.a (.fn 152))]) (.cons 194 (.obj 10 [(.a (.str 194)),(.a (.int (.ofNat 1))),(.a (.int (.negSucc 0))),(.a (.fn 155))]) (.cons 195 (.obj 10 [(.a (.str 195)),(.a (.int (.ofNat 0))),(.a (.int (.negSucc 0))),(.a (.fn 160))]) (.cons 196 (.obj 10 [(.a (.str 196)),(.a (.int (.ofNat 0))),(.a (.int (.negSucc 0))),(.a (.fn 161))]) (.cons 198 (.obj 10 [(.a (.str 198)),(.a (.int (.ofNat 1))),(.a (.int (.negSucc 0))),(.a (.fn 165))]) (.cons 199 (.obj 10 [(.a (.str 199)),(.a (.int (.ofNat 1))),(.a (.int (.negSucc 0))),(.a (.fn 169))]) (.cons 204 (.obj 10 [(.a (.str 204)),(.a (.int (.ofNat 1))),(.a (.int (.negSucc 0))),(.a (.fn 176))]) (.cons 205 (.obj 10 [(.a (.str 205)),(.a (.int (.ofNat 1))),(.a (.int (.negSucc 0))),(.a (.fn 180))]) (.cons 207 (.obj 10 [(.a (.str 207)),(.a (.int (.ofNat 2))),(.a (.int (.negSucc 0))),(.a (.fn 187))]) (.cons 209 (.obj 10 [(.a (.str 209)),(.a (.int (.ofNat 0))),(.a (.int (.negSucc 0))),(.a (.fn 188))]) (.cons 168 (.obj 9 [(.a (.str 168)),(.a (.int (.ofNat 1))),(.a (.int (.negSucc 0))),(.a (.fn 117))]) (.cons 101 (.obj 9 [(.a (.str 101)),(.a (.int (.ofNat 1))),(.a (.int (.negSucc 0))),(.a (.fn 119))]) (.cons 170 (.obj 9 [(.a (.str 170)),(.a (.int (.ofNat 1))),(.a (.int (.ofNat 2))),(.a (.fn 120))]) (.cons 147 (.obj 9 [(.a (.str 147)),(.a (.int (.ofNat 2))),(.a (.int (.ofNat 2))),(.a (.fn 121))]) (.cons 144 (.obj 9 [(.a (.str 144)),(.a (.int (.ofNat 2))),(.a (.int (.ofNat 2))),(.a (.fn 122))]) (.cons 172 (.obj 9 [(.a (.str 172)),(.a (.int (.ofNat 2))),(.a (.int (.ofNat 2))),(.a (.fn 126))]) (.cons 173 (.obj 9 [(.a (.str 173)),(.a (.int (.ofNat 2))),(.a (.int (.ofNat 2))),(.a (.fn 127))]) (.cons 174 (.obj 9 [(.a (.str 174)),(.a (.int (.ofNat 1))),(.a (.int (.ofNat 2))),(.a (.fn 131))]) (.cons 175 (.obj 9 [(.a (.str 175)),(.a (.int (.ofNat 1))),(.a (.int (.ofNat 2))),(.a (.fn 132))]) (.cons 238 (.obj 6 [(.a (.int (.ofNat 0))),(.a (.str 238)),(.a (.int (.ofNat 0))),(.a (.int (.negSucc 0))),(.a (.clo 2))]) (.cons 234 (.obj 6 [(.a (.int (.ofNat 1))),(.a (.str 234)),(.a (.int (.ofNat 2))),(.a (.int (.ofNat 2))),(.a (.fn 213))]) (.cons 247 (.obj 6 [(.a (.int (.ofNat 2))),(.a (.str 247)),(.a (.int (.ofNat 1))),(.a (.int (.negSucc 0))),(.a (.fn 208))]) .nil)))))))))))))))))))))))))))))))) (.node (.inst 25 (.cons 88 (.ref 4) (.cons 109 (.a (.int (.ofNat 100000))) (.cons 110 (.ref 16) (.cons 111 (.a (.int (.ofNat 0))) (.cons 70 (.a .unk) (.cons 112 (.a (.upto 0)) (.cons 72 (.ref 17) .nil)))))))) .nil .nil) .nil) (.node (.dic 0 .nil) .nil .nil)) (.node .obar (.node (.inst 13 (.cons 74 (.ref 10) (.cons 75 (.ref 11) (.cons 76 (.ref 12) .nil)))) (.node (.inst 16 (.cons 88 (.ref 4) (.cons 89 (.ref 18) .nil))) .nil .nil) .nil) (.node (.inst 14 (.cons 78 (.ref 14) .nil)) .nil .nil))) (.node (.lst 1 []) (.node (.inst 41 (.cons 211 (.ref 5) (.cons 123 (.ref 6) (.cons 81 (.ref 9) (.cons 215 (.ref 13) (.cons 217 (.a .none) (.cons 33 (.ref 15) (.cons 218 (.a (.int (.ofNat 0))) .nil)))))))) (.node (.dic 0 .nil) (.node (.lst 0 []) .nil .nil) .nil) (.node (.dic 0 .nil) .nil .nil)) (.node (.inst 11 (.cons 38 (.ref 7) (.cons 39 (.ref 8) .nil))) (.node (.dic 1 (.cons 237 (.obj 6 [(.a (.int (.ofNat 0))),(.a (.str 238)),(.a (.int (.ofNat 0))),(.a (.int (.negSucc 0))),(.a (.clo 2))]) .nil)) (.node (.lst 0 []) .nil .nil) .nil) (.node (.dic 0 .nil) .nil .nil))))
end
noncomputable def nS:Nat:=nat_lit 19
section
local macro_rules | `($n:num) => `(nat_lit $n)
noncomputable def preB:SM:=(Yc (sAsg 228 (Xa (Xg (.a (.fn 204))) (Xc (Xl 256) Xn))) (Yc (sAsgT [231,257] (eTup (Xc (eList Xn) (Xc (eList Xn) Xn)))) (Yc (sAsg 224 (Xa (Xg (.a (.cls 41))) Xn)) (Yc (sAsg 229 (Xa (Xg (.a (.cls 25))) (Xc (Xl 224) (Xc (Xi 100000) Xn)))) (Yc (sExpr (Xa (Xg (.a (.fn 214))) (Xc (Xl 224) (Xc (Xl 231) Xn)))) Yn)))))
end
section
local macro_rules | `($n:num) => `(nat_lit $n)
noncomputable def headB:SM:=(Yc (sAsgT [230,250] (eTup (Xc (Xa (Xg (.a (.fn 205))) (Xc (Xl 228) (Xc (Xi 5) Xn))) (Xc (Xa (Xg (.a (.fn 205))) (Xc (Xl 228) (Xc (Xi 5) Xn))) Xn)))) Yn)
end
section
local macro_rules | `($n:num) => `(nat_lit $n)
noncomputable def restB:SM:=(Yc (sAsg 226 (eComp (eBin 0 (Xi 1) (Xa (Xg (.a (.fn 205))) (Xc (Xl 228) (Xc (Xi 90) Xn)))) (.one 21) (Xa (Xg (.a (.blt 1))) (Xc (Xa (Xg (.a (.fn 205))) (Xc (Xl 228) (Xc (Xi 4) Xn))) Xn)) [228])) (Yc (sAsgT [99,244] (Xa (Xg (.a (.fn 215))) (Xc (Xl 224) (Xc (Xl 228) (Xc (Xl 230) (Xc (Xl 226) (Xc (Xl 250) Xn))))))) (Yc (sAsgT [15,263] (eTup (Xc (eList Xn) (Xc eNone Xn)))) (Yc (sFor (.one 93) (Xl 244) (Yc (sAsg 264 (Xa (Xg (.a (.fn 211))) (Xc (Xl 230) (Xc (Xl 93) (Xc (Xl 257) Xn))))) (Yc (sIf (tCmp 1 (Xj (Xl 264) (Xi 0)) (eStr 70)) (Yc (sAsg 263 (Xl 264)) (Yc sBreak Yn)) Yn) (Yc (sExpr (Xm (Xl 15) 25 (Xc (Xj (Xl 264) (Xi 1)) Xn))) Yn)))) (Yc (sIf (tCmp 6 (Xl 263) eNone) (Yc (sAsg 263 (eIte (tCmp 2 (Xl 250) (Xi 3)) (eList (Xc (eStr 70) (Xc (Xj (Xl 15) (eNeg (Xi 1))) Xn))) (eList (Xc (eStr 70) (Xc (eIte (tCmp 1 (Xl 15) (eList Xn)) (Xl 15) (eStr 0)) Xn))))) Yn) Yn) (Yc (sAsg 264 (Xa (Xg (.a (.fn 210))) (Xc (Xl 229) (Xc (Xl 99) Xn)))) (Yc (sIf (tAnd (tCmp 0 (Xl 250) (Xi 4)) (tAnd (tCmp 0 (Xj (Xl 263) (Xi 0)) (eStr 70)) tTrue)) (Yc (sIf (tOr (tCmp 1 (Xj (Xl 264) (Xi 0)) (eStr 70)) (tOr (tAnd (tE (Xa (Xg (.a (.blt 2))) (Xc (Xj (Xl 264) (Xi 1)) (Xc (Xg (.a (.blt 8))) Xn)))) (tAnd (tCmp 1 (Xj (Xl 264) (Xi 1)) (eStr 0)) tTrue)) tFalse)) (Yc (sRet (eBool false)) Yn) Yn) Yn) (Yc (sIf (tCmp 1 (Xl 264) (Xl 263)) (Yc (sRet (eBool false)) Yn) Yn) Yn)) (Yc (sIf (tOr (tCmp 1 (Xl 231) (Xl 257)) (tOr (tCmp 1 (Xt (Xl 229) 110) (eList Xn)) (tOr (tCmp 1 (Xt (Xl 229) 111) (Xi 0)) tFalse))) (Yc (sRet (eBool false)) Yn) Yn) Yn))))))))
end
section
local macro_rules | `($n:num) => `(nat_lit $n)
noncomputable def sufB:SM:=(Yc (sAsg 10 (Xa (Xg (.a (.fn 205))) (Xc (Xl 228) (Xc (Xi 90) Xn)))) (Yc (sAsg 154 (Xa (Xg (.a (.fn 13))) (Xc (eList (Xc (Xm (Xl 224) 3 (Xc (eStr 147) Xn)) (Xc (Xi 5) (Xc (Xl 10) Xn)))) Xn))) (Yc (sAsg 268 (Xa (Xg (.a (.fn 13))) (Xc (eList (Xc (Xm (Xl 224) 3 (Xc (eStr 179) Xn)) (Xc (Xa (Xg (.a (.fn 13))) (Xc (eList (Xc (Xm (Xl 224) 3 (Xc (eStr 135) Xn)) (Xc (Xg (.a (.sym 0))) (Xc (Xl 154) Xn)))) Xn)) Xn))) Xn))) (Yc (sAsg 269 (Xa (Xg (.a (.fn 13))) (Xc (eList (Xc (Xm (Xl 224) 3 (Xc (eStr 204) Xn)) (Xc (Xi 5) (Xc (Xa (Xg (.a (.fn 13))) (Xc (eList (Xc (Xm (Xl 224) 3 (Xc (eStr 247) Xn)) (Xc (Xl 268) Xn))) Xn)) (Xc (Xi 1) Xn))))) Xn))) (Yc (sRet (eAnd (eCmp 0 (Xa (Xg (.a (.fn 210))) (Xc (Xl 229) (Xc (Xl 269) Xn))) (eList (Xc (eStr 70) (Xc (Xl 10) Xn)))) (eAnd (eCmp 0 (Xt (Xl 229) 110) (eList Xn)) (eCmp 0 (Xt (Xl 229) 111) (Xi 0))))) Yn)))))
end
noncomputable def wk(H:HT):Bool:=wkS hS nS (nat_lit 2) (nat_lit 3) H
noncomputable def subL(l:FL):FL→Bool
 | .nil=>true
 | .cons k v r=>(match l.look k with | some u=>V.same u v | none=>false) && subL l r
noncomputable def toS(l:FL)(H:HT)(_:Nat):Bool:=subL l lS && wk H
noncomputable def toH(l:FL)(H:HT)(_:Nat):Bool:=optK (l.look (nat_lit 230)) (fun v=>asNat v fun x=>Nat.ble x 4) && optK (l.look (nat_lit 250)) (fun v=>asNat v fun x=>Nat.ble x 4) && subL l lS && wk H
noncomputable def lab(x y:Nat):FL:=.cons (nat_lit 230) (.a (.int (.ofNat x))) (.cons (nat_lit 250) (.a (.int (.ofNat y))) lS)
noncomputable def RS:RR:=mk fnT FDeed (nat_lit 60) false
noncomputable def ksN(f:FL→HT→Nat→Bool):KS:=⟨f,fun _ _ _=>false,fun _ _ _=>false,fun _ _ _ _=>false⟩
noncomputable def l0:FL:=.cons (nat_lit 256) (.a .scr) .nil
noncomputable def h0:HT:=.node (.ntab (nat_lit 0)) .nil .nil
end
end Mine
end
section
open PySem renaming Expr→PX,Str→PS
open PySem
namespace Mine
theorem r_pre:preB RS l0 h0 (nat_lit 1) (ksN toS)=true:=by kernel_rfl
theorem r_head:headB RS lS hS nS (ksN toH)=true:=by kernel_rfl
theorem r_suf:sufB RS lS hS nS ⟨fun _ _ _=>false,fun v _ _=>asBool v fun b=>b,fun _ _ _=>false,fun _ _ _ _=>false⟩=true:=by kernel_rfl
theorem r00:restB RS (lab (nat_lit 0) (nat_lit 0)) hS nS (ksN toS)=true:=by kernel_rfl
theorem r01:restB RS (lab (nat_lit 0) (nat_lit 1)) hS nS (ksN toS)=true:=by kernel_rfl
theorem r02:restB RS (lab (nat_lit 0) (nat_lit 2)) hS nS (ksN toS)=true:=by kernel_rfl
theorem r03:restB RS (lab (nat_lit 0) (nat_lit 3)) hS nS (ksN toS)=true:=by kernel_rfl
theorem r04:restB RS (lab (nat_lit 0) (nat_lit 4)) hS nS (ksN toS)=true:=by kernel_rfl
theorem r10:restB RS (lab (nat_lit 1) (nat_lit 0)) hS nS (ksN toS)=true:=by kernel_rfl
theorem r11:restB RS (lab (nat_lit 1) (nat_lit 1)) hS nS (ksN toS)=true:=by kernel_rfl
theorem r12:restB RS (lab (nat_lit 1) (nat_lit 2)) hS nS (ksN toS)=true:=by kernel_rfl
theorem r13:restB RS (lab (nat_lit 1) (nat_lit 3)) hS nS (ksN toS)=true:=by kernel_rfl
theorem r14:restB RS (lab (nat_lit 1) (nat_lit 4)) hS nS (ksN toS)=true:=by kernel_rfl
theorem r20:restB RS (lab (nat_lit 2) (nat_lit 0)) hS nS (ksN toS)=true:=by kernel_rfl
theorem r21:restB RS (lab (nat_lit 2) (nat_lit 1)) hS nS (ksN toS)=true:=by kernel_rfl
theorem r22:restB RS (lab (nat_lit 2) (nat_lit 2)) hS nS (ksN toS)=true:=by kernel_rfl
theorem r23:restB RS (lab (nat_lit 2) (nat_lit 3)) hS nS (ksN toS)=true:=by kernel_rfl
theorem r24:restB RS (lab (nat_lit 2) (nat_lit 4)) hS nS (ksN toS)=true:=by kernel_rfl
theorem r30:restB RS (lab (nat_lit 3) (nat_lit 0)) hS nS (ksN toS)=true:=by kernel_rfl
theorem r31:restB RS (lab (nat_lit 3) (nat_lit 1)) hS nS (ksN toS)=true:=by kernel_rfl
theorem r32:restB RS (lab (nat_lit 3) (nat_lit 2)) hS nS (ksN toS)=true:=by kernel_rfl
theorem r33:restB RS (lab (nat_lit 3) (nat_lit 3)) hS nS (ksN toS)=true:=by kernel_rfl
theorem r34:restB RS (lab (nat_lit 3) (nat_lit 4)) hS nS (ksN toS)=true:=by kernel_rfl
theorem r40:restB RS (lab (nat_lit 4) (nat_lit 0)) hS nS (ksN toS)=true:=by kernel_rfl
theorem r41:restB RS (lab (nat_lit 4) (nat_lit 1)) hS nS (ksN toS)=true:=by kernel_rfl
theorem r42:restB RS (lab (nat_lit 4) (nat_lit 2)) hS nS (ksN toS)=true:=by kernel_rfl
theorem r43:restB RS (lab (nat_lit 4) (nat_lit 3)) hS nS (ksN toS)=true:=by kernel_rfl
theorem r44:restB RS (lab (nat_lit 4) (nat_lit 4)) hS nS (ksN toS)=true:=by kernel_rfl
theorem le4{P:Nat→Prop}(h0:P 0)(h1:P 1)(h2:P 2)(h3:P 3)(h4:P 4):∀ x,x≤4→P x
 | 0,_=>h0
 | 1,_=>h1
 | 2,_=>h2
 | 3,_=>h3
 | 4,_=>h4
 | _ + 5,h=>absurd h (by omega)
theorem rest_run(x y:Nat)(hx:x≤4)(hy:y≤4):restB RS (lab x y) hS nS (ksN toS)=true:=le4 (P:=fun x=>∀ y,y≤4→restB RS (lab x y) hS nS (ksN toS)=true) (le4 r00 r01 r02 r03 r04) (le4 r10 r11 r12 r13 r14) (le4 r20 r21 r22 r23 r24) (le4 r30 r31 r32 r33 r34) (le4 r40 r41 r42 r43 r44) x hx y hy
end Mine
end
section
open PySem renaming Expr→PX,Str→PS
open PySem PySem.W PySem.Spec PySem.Calls PyProof.Rows PySem.SeqAt
namespace Mine
noncomputable def isBin:PX→Bool
 | .BinOp ..=>true
 | _=>false
section
variable{w:World}{A:Around}{env:Env}{m:PS→Option Value}
theorem name_ev{s:Shared}{x:PS}{p:Pos}{v:Value}(es:EnvS env)(nb:(x == ("__debug__" : PS))=false)(hk:env.kindOf x=some .local)(ns:s.heap.Ns env.locals m)(e:m x=some v){Q E:Value→Shared→Prop}(q:Q v s):wpAny (model prog w) A (eval (.Name x p) env) Q E s :=
 wpAny_Name (wpAny_loadName_local es.kind hk ns e q) nb
structure IE(w:World)(A:Around)(h:Heap)(env:Env)(e:PX)(z:Int):Prop where
 ev:∀ {Q E:Value→Shared→Prop} {s:Shared},s.heap=h→(∀ t tk,s.toks≤tk→(isBin e=true→s.toks≤t)→Q (.int z t) { s with toks:=tk })→wpAny (model prog w) A (eval e env) Q E s
theorem IE.int{h:Heap}{z:Int}{i:Nat}{p:Pos}:IE w A h env (.Constant (.int z) i p) z:=⟨fun _ q=>wpAny_Constant_int (q _ _ (Nat.le_succ _) fun z=>nomatch z)⟩
theorem IE.name{h:Heap}{x:PS}{p:Pos}{z:Int}{t:Tok}(es:EnvS env)(ns:h.Ns env.locals m)(nb:(x == ("__debug__" : PS))=false)(hk:env.kindOf x=some .local)(e:m x=some (.int z t)):IE w A h env (.Name x p) z:=⟨fun hs q=>by subst hs;exact name_ev es nb hk ns e (q _ _ (Nat.le_refl _) fun z=>nomatch z)⟩
theorem IE.item{h:Heap}{x:PS}{p p2 p3:Pos}{i:Nat}{a:Addr}{items:Array Value}{z:Int}{t:Tok}(es:EnvS env)(ns:h.Ns env.locals m)(nb:(x == ("__debug__" : PS))=false)(hk:env.kindOf x=some .local)(e:m x=some (.ref a))(hl:h.IsList a items)(h0:items[0]?=some (.int z t)) :
  IE w A h env (.Subscript (.Name x p) (.Constant (.int 0) i p2) p3) z:=by
 refine ⟨@fun Q E s hs q=>?_⟩
 subst hs
 refine Subscript_ (name_ev es nb hk ns e (wpAny_Constant_int ?_))
 exact tail_any (s:={ s with toks:=s.toks + 1 }) hl.typeIs slot_list_getitem.lookup (wpAny_getItem_list (s:={ s with toks:=s.toks + 1 }) hl (by decide) (by decide) h0 (q _ _ (Nat.le_succ _) fun z=>nomatch z)) (subscripted_plain rfl _ _)
theorem IE.bin{h:Heap}{e1 e2:PX}{a b c:Int}{op:Operator}{p:Pos}(i1:IE w A h env e1 a)(i2:IE w A h env e2 b)(o:∀ {Q E:Value→Shared→Prop} {s:Shared} {t1 t2:Tok},Q (.int c s.toks) { s with toks:=s.toks + 1 }→wpAny (model prog w) A (binaryOp op (.int a t1) (.int b t2)) Q E s) :
  IE w A h env (.BinOp e1 op e2 p) c :=
 ⟨@fun Q E s hs q=>wpAny_BinOp (i1.ev hs fun _ k1 l1 _=>i2.ev (s:={ s with toks:=k1 }) hs fun _ k2 l2 _=>o (q _ _ (Nat.le_succ_of_le (Nat.le_trans l1 l2)) fun _=>Nat.le_trans l1 l2))⟩
theorem IE.add{h:Heap}{e1 e2:PX}{a b:Int}{p:Pos}(x:IE w A h env e1 a)(y:IE w A h env e2 b):IE w A h env (.BinOp e1 .Add e2 p) (a + b):=.bin x y fun q=>add_int q
theorem IE.mul{h:Heap}{e1 e2:PX}{a b:Int}{p:Pos}(x:IE w A h env e1 a)(y:IE w A h env e2 b)(hm:IntMulOk a b):IE w A h env (.BinOp e1 .Mult e2 p) (a * b):=.bin x y fun q=>PyProof.Rows.mul_int q hm
theorem IE.mod{h:Heap}{e1 e2:PX}{a b:Int}{p:Pos}(x:IE w A h env e1 a)(y:IE w A h env e2 b)(hb:b≠0):IE w A h env (.BinOp e1 .Mod e2 p) (a.fmod b):=.bin x y fun q=>PyProof.Rows.mod_int' hb q
theorem IE.fdiv{h:Heap}{e1 e2:PX}{a b:Int}{p:Pos}(x:IE w A h env e1 a)(y:IE w A h env e2 b)(hb:b≠0)(hn:Builtin.divisionGoesByPylong a b=false):IE w A h env (.BinOp e1 .FloorDiv e2 p) (a.fdiv b):=.bin x y fun q=>PyProof.Rows.floordiv_int hb q (.inl hn)
end
structure WS(s0:Shared)(env:Env)(c e:Addr)(cs:Array Value)(seed:Int)(m:PS→Option Value)(s:Shared):Prop where
 keep:∀ b o,b≠c→b≠e→b≠env.locals→s0.heap.get? b=some o→s.heap.get? b=some o
 le:s0.heap.objs.size≤s.heap.objs.size
 hc:∃ n,s.heap.get? c=some ⟨.type "list",none,.seq cs n,#[]⟩
 he:∃ n t,s.heap.get? e=some ⟨.type "list",none,.seq #[.int seed t] n,#[]⟩
 ns:s.heap.Ns env.locals m
 fr:Fro s0 s
 tk:s0.toks≤s.toks
noncomputable def notComp0:PX→Bool
 | .ListComp .. | .SetComp .. | .DictComp ..=>false
 | _=>true
theorem swaps0{e:PX}(h:notComp0 e=true){t:Option PX}{k:Nat}{env:Env}:swapsWith e t k env=pure false:=by
 cases e <;> first | rfl | cases h
section
variable{w:World}{A:Around}{env:Env}{m:PS→Option Value}{s0 s:Shared}{c e:Addr}{cs:Array Value}{seed:Int}{E:Value→Shared→Prop}
theorem WS.tok(W:WS s0 env c e cs seed m s){t:Nat}(h:s.toks≤t):WS s0 env c e cs seed m { s with toks:=t }:=⟨W.keep,W.le,W.hc,W.he,W.ns,W.fr.hq,Nat.le_trans W.tk h⟩
theorem WS.more(W:WS s0 env c e cs seed m s){h':Heap}(k:∀ b o,s.heap.get? b=some o→h'.get? b=some o)(hz:s.heap.objs.size≤h'.objs.size):WS s0 env c e cs seed m { s with heap:=h' } :=
 ⟨fun b o h1 h2 h3 q=>k _ _ (W.keep b o h1 h2 h3 q),Nat.le_trans W.le hz,let ⟨n,g⟩:=W.hc;⟨n,k _ _ g⟩,let ⟨n,t,g⟩:=W.he;⟨n,t,k _ _ g⟩,let ⟨o,es,ep,g,r⟩:=W.ns;⟨o,es,ep,k _ _ g,r⟩,W.fr.hq,W.tk⟩
theorem WS.isC(W:WS s0 env c e cs seed m s):s.heap.IsList c cs:=let ⟨n,g⟩:=W.hc;⟨_,g,rfl,n,rfl⟩
theorem WS.isE(W:WS s0 env c e cs seed m s):∃ t,s.heap.IsList e #[.int seed t]:=let ⟨n,t,g⟩:=W.he;⟨t,_,g,rfl,n,rfl⟩
theorem nenil_ok{x:PS}{p1 p2 p3:Pos}{whole:Sem Value}(W:WS s0 env c e cs seed m s)(es:EnvS env)(nb:(x == ("__debug__" : PS))=false)(hk:env.kindOf x=some .local)(mx:m x=some (.ref c))(hu:A.units < cLine){Q:Bool→Shared→Prop}(q:∀ s',WS s0 env c e cs seed m s'→Q (decide (0 < cs.size)) s') :
  wpAny (model prog w) A (isTrue (.Compare (.Name x p1) [.NotEq] [.List [] p2] p3) env whole) Q E s:=by
 refine wpAny_isTrue_Compare1 (name_ev es nb hk W.ns mx ?_) rfl
 refine wpAny_List (spliced_none ⟨by simp,?_⟩)
 have lt:c < s.heap.objs.size:=let ⟨n,g⟩:=W.hc;Heap.lt_size g
 have W':=W.more (h':=s.heap.push { cls:=.type "list",data:=.seq ([]:List Value).toArray }) (fun b o g=>Heap.get?_push_of_some _ g) (by rw [Heap.size_push];exact Nat.le_succ _)
 have L2:(s.heap.push { cls:=.type "list",data:=.seq ([]:List Value).toArray }).IsList s.heap.objs.size #[]:=⟨_,Heap.get?_push_size _ rfl,rfl,0,rfl⟩
 have L1:(s.heap.push { cls:=.type "list",data:=.seq ([]:List Value).toArray }).IsList c cs:=W'.isC
 have ne:c≠s.heap.objs.size:=Nat.ne_of_lt lt
 by_cases hz:cs.size=0
 ·have:=(RcNeAt.lists (A:=A) (s:={ s with heap:=s.heap.push { cls:=.type "list",data:=.seq ([]:List Value).toArray } }) (e:=fun _=>true) L1 L2 (by rw [hz];rfl) hu (fun j h1 h2=>by rw [hz] at h1;exact absurd h1 (Nat.not_lt_zero _)))
  rw [hz] at this
  refine this prog w E _ (wpAny_truthy_bool ?_)
  have:=q _ W'
  rw [hz] at this
  exact this
 ·have:=(RcNeAt.lists_lengths (A:=A) (s:={ s with heap:=s.heap.push { cls:=.type "list",data:=.seq ([]:List Value).toArray } }) L1 L2 (by simpa using hz) hu)
  refine this prog w E _ (wpAny_truthy_bool ?_)
  have:=q _ W'
  rw [decide_eq_true (Nat.pos_of_ne_zero hz)] at this
  exact this
end
noncomputable def csOk(cs:Array Value):Prop:=cs.size≤10∧∀ w∈cs,∃ z t,w=.int z t∧0≤z∧z < 10 ^ 24
noncomputable def seedOk(z:Int):Prop:=0≤z∧z < 10 ^ 25
section
variable{w:World}{A:Around}{env:Env}{m:PS→Option Value}{s0 s:Shared}{c e:Addr}{cs:Array Value}{seed:Int}{E:Value→Shared→Prop}{hd:Bool}{γ:Gh}
theorem unpack2_ok(hfr:γ.own s.heap.objs.size≠.exn)(hh:HdOk A hd γ s.heap){a:Addr}{v1 v2:Value}{n:Nat}{Q:List Value→Shared→Prop}(g:s.heap.get? a=some ⟨.type "list",none,.seq #[v1,v2] n,#[]⟩)
  (hQ:∀ h',(∀ b o,s.heap.get? b=some o→h'.get? b=some o)→s.heap.objs.size≤h'.objs.size→Q [v1,v2] { s with heap:=h' }):wpAny (model prog w) A (unpackItems (.ref a) 2 none) Q E s:=by
 have L0:s.heap.IsList a #[v1,v2]:=⟨_,g,rfl,n,rfl⟩
 have hlt:a≠s.heap.objs.size:=Nat.ne_of_lt (Heap.lt_size g)
 have it0:(s.heap.push { cls:=.type "list_iterator",data:=.fields #[.ref a,.int 0 0] }).IsListIter s.heap.objs.size a 0:=⟨_,Heap.get?_push_size _ rfl,rfl,rfl⟩
 have L1:(s.heap.push { cls:=.type "list_iterator",data:=.fields #[.ref a,.int 0 0] }).IsList a #[v1,v2]:=⟨_,Heap.get?_push_of_some _ g,rfl,n,rfl⟩
 unfold unpackItems
 refine wpAny_bind ?_
 unfold notIterableAtAll
 refine wpAny_bind (wpAny_specialOf L0.typeIs slot_list_iter.lookup ?_)
 refine wpAny_pure ?_
 simp only [Bool.false_eq_true,if_false]
 refine wpAny_bind (wpAny_holding (wpAny_pyIter_list L0 ?_))
 refine wpAny_bind (wpAny_holding ?_)
 have lst:∀ {h':Heap},Heap.SameBut s.heap.objs.size (s.heap.push { cls:=.type "list_iterator",data:=.fields #[.ref a,.int 0 0] }) h'→h'.IsList a #[v1,v2]∧(∀ b o,s.heap.get? b=some o→h'.get? b=some o)∧s.heap.objs.size≤h'.objs.size:=fun hs =>
  ⟨⟨_,(hs.2 a hlt).trans (Heap.get?_push_of_some _ g),rfl,n,rfl⟩,fun b o e=>(hs.2 b (Nat.ne_of_lt (Heap.lt_size e))).trans (Heap.get?_push_of_some _ e),by rw [hs.1,Heap.size_push];exact Nat.le_succ _⟩
 unfold draw
 refine wpAny_bind (wpAny_pyNext_list_item it0 L1 (x:=v1) rfl fun h1 i1 s1=>?_)
 dsimp only
 refine wpAny_bind (wpAny_holding ?_)
 unfold draw
 refine wpAny_bind (wpAny_pyNext_list_item i1 (lst s1).1 (x:=v2) rfl fun h2 i2 s2=>?_)
 have s12:=s1.trans s2
 dsimp only
 refine wpAny_bind (wpAny_holding ?_)
 unfold draw
 refine wpAny_pure (wpAny_pure (wpAny_pure ?_))
 rw [if_neg (by simp)]
 obtain⟨L2,K2,Z2⟩:=lst s12
 have hh2:HdOk A hd γ h2:=hh.mono (Kp.more (X:=NX) K2 Z2)
 refine wpAny_bind (wpAny_holding (list_end (s:={ s with heap:=h2 }) hh2 hfr i2 L2 rfl fun h3 he=>?_))
 simp only [Option.isSome_none,Bool.false_eq_true,if_false]
 exact wpAny_pure (hQ h3 (fun b o e=>he.keep b o (Nat.ne_of_lt (Heap.lt_size e)) (K2 b o e)) (Nat.le_trans Z2 he.size))
theorem pop0_ok{x:PS}{p1 ap p2 p:Pos}{i:Nat}(W:WS s0 env c e cs seed m s)(es:EnvS env)(nb:(x == ("__debug__" : PS))=false)(hk:env.kindOf x=some .local)(mx:m x=some (.ref c))(hp:ap.endLine=p.line)(ne:e≠c)(nl:env.locals≠c){v:Value}(hv:cs[0]?=some v)(hz:cs.size≤10){Q:Value→Shared→Prop}
  (q:∀ s',WS s0 env c e (cs.eraseIdxIfInBounds 0) seed m s'→s.toks≤s'.toks→Q v s'):wpAny (model prog w) A (eval (.Call (.Attribute (.Name x p1) "pop" ap) [.Constant (.int 0) i p2] [] p) env) Q E s:=by
 obtain⟨pl,he⟩:=callM_he (e:=.Name x p1) (x:= "pop") (es:=[.Constant (.int 0) i p2]) rfl (Nat.le_of_ble_eq_true rfl) hp (fun _ _=>rfl) env
 refine methodCall_KW (pl:=pl) (name_ev es nb hk W.ns mx ?_) he
 have nd:s.heap.NoDictAt (.ref c):=let ⟨n,g⟩:=W.hc;⟨_,g,rfl⟩
 refine getMethod_list_of PySem.F.slot_list_pop PySem.F.type_list_pop W.isC nd ?_
 refine callWith_of (P:=fun h=>KeepJ w h (.builtin "list.pop")) rfl (fun h x=>x) (evalArgs_spliced rfl ?_)
 refine spliced_more (wpAny_Constant_int (spliced_none ⟨⟨.machine,.inr (.inl rfl),.now⟩,?_⟩))
 obtain⟨n,g⟩:=W.hc
 have hs:Heap.SameBut c s.heap (s.heap.update c (Obj.mapSeq fun xs=>xs.eraseIdxIfInBounds 0)):=Heap.SameBut.update ..
 have lt:0 < cs.size:=(Array.getElem?_eq_some_iff.mp hv).1
 refine call_meets PySem.F.slot_list_pop ⟨_,g,rfl⟩ PySem.F.entry_list_pop (PySem.F.args_list_pop_2 _ _) (MeetsSeq.list_pop_at c cs n 0 _ 0 v (by decide) ?_ hv (by rw [sizeLine_eq];omega)) ⟨g,?_⟩
 ·have:=seqIndex_of (k:=(0:Int)) (n:=cs.size) (by decide) (by omega)
  rw [this];rfl
 ·refine q _ ⟨fun b o h1 h2 h3 h4=>(hs.2 b h1).trans (W.keep b o h1 h2 h3 h4),by show s0.heap.objs.size≤(s.heap.update c _).objs.size;rw [Heap.size_update];exact W.le,⟨_,IsL.update g (fun xs=>xs.eraseIdxIfInBounds 0)⟩,?_,?_,W.fr.hq,Nat.le_succ_of_le W.tk⟩ (Nat.le_succ _)
  ·obtain⟨n',t,g'⟩:=W.he;exact⟨n',t,(hs.2 e ne).trans g'⟩
  ·obtain⟨o,es',ep,g',r⟩:=W.ns;exact⟨o,es',ep,(hs.2 _ nl).trans g',r⟩
set_option tactic.hygienic true in
theorem setAt0{x:PS}{p1 p2 p3 p4:Pos}{i:Nat}{ve:PX}{a:Addr}(es:EnvS env)(nb:(x == ("__debug__" : PS))=false)(hk:env.kindOf x=some .local)(mx:m x=some (.ref a))(hn:notComp0 ve=true){Q:Flow→Shared→Prop}
  (hv:wpAny (model prog w) A (eval ve env) (fun v s1=>s1.heap.Ns env.locals m∧∃ items n,s1.heap.get? a=some ⟨.type "list",none,.seq items n,#[]⟩∧0 < items.size∧(∀ h' n' tk,h'.get? a=some ⟨.type "list",none,.seq (items.setIfInBounds 0 v) n',#[]⟩→Heap.SameBut a s1.heap h'→s1.toks≤tk→Q .next { s1 with heap:=h',toks:=tk })) E s) :
  wpAny (model prog w) A (exec (.Assign [.Subscript (.Name x p1) (.Constant (.int 0) i p2) p3] ve p4) env) Q E s:=by
 refine wpAny_Assign_Subscript (wpAny_mono hv (fun v s1 z=>?_) fun _ _ z=>z) (swaps0 hn)
 obtain⟨n1,items,n,g,z1,k1⟩:=z
 refine name_ev es nb hk n1 mx (wpAny_Constant_int ?_)
 exact ki_setAt (s:={ s1 with toks:=s1.toks + 1 }) (n:=n) g (by decide) (by decide) (by omega) (k1 _ _ _ (IsL.update g fun xs=>xs.setIfInBounds 0 v) (Heap.SameBut.update ..) (Nat.le_succ _))
theorem WS.setE(W:WS s0 env c e cs seed m s){h':Heap}{z:Int}{t:Tok}{n:Nat}(g:h'.get? e=some ⟨.type "list",none,.seq #[.int z t] n,#[]⟩)(hs:Heap.SameBut e s.heap h')(ne:c≠e)(nl:env.locals≠e){tk:Nat}(ht:s.toks≤tk):WS s0 env c e cs z m { s with heap:=h',toks:=tk } :=
 ⟨fun b o h1 h2 h3 h4=>(hs.2 b h2).trans (W.keep b o h1 h2 h3 h4),by show _≤h'.objs.size;rw [hs.1];exact W.le,let ⟨n,g⟩:=W.hc;⟨n,(hs.2 c ne).trans g⟩,⟨n,t,g⟩,let ⟨o,es',ep,g',r⟩:=W.ns;⟨o,es',ep,(hs.2 _ nl).trans g',r⟩,W.fr.hq,Nat.le_trans W.tk ht⟩
theorem WS.setC(W:WS s0 env c e cs seed m s){h':Heap}{cs':Array Value}{n:Nat}(g:h'.get? c=some ⟨.type "list",none,.seq cs' n,#[]⟩)(hs:Heap.SameBut c s.heap h')(ne:e≠c)(nl:env.locals≠c){tk:Nat}(ht:s.toks≤tk):WS s0 env c e cs' seed m { s with heap:=h',toks:=tk } :=
 ⟨fun b o h1 h2 h3 h4=>(hs.2 b h1).trans (W.keep b o h1 h2 h3 h4),by show _≤h'.objs.size;rw [hs.1];exact W.le,⟨n,g⟩,let ⟨n,t,g⟩:=W.he;⟨n,t,(hs.2 e ne).trans g⟩,let ⟨o,es',ep,g',r⟩:=W.ns;⟨o,es',ep,(hs.2 _ nl).trans g',r⟩,W.fr.hq,Nat.le_trans W.tk ht⟩
theorem WS.setM(W:WS s0 env c e cs seed m s){h':Heap}{m':PS→Option Value}(g:h'.Ns env.locals m')(hs:Heap.SameBut env.locals s.heap h')(nc:c≠env.locals)(ne:e≠env.locals){tk:Nat}(ht:s.toks≤tk):WS s0 env c e cs seed m' { s with heap:=h',toks:=tk } :=
 ⟨fun b o h1 h2 h3 h4=>(hs.2 b h3).trans (W.keep b o h1 h2 h3 h4),by show _≤h'.objs.size;rw [hs.1];exact W.le,let ⟨n,g⟩:=W.hc;⟨n,(hs.2 c nc).trans g⟩,let ⟨n,t,g⟩:=W.he;⟨n,t,(hs.2 e ne).trans g⟩,g,W.fr.hq,Nat.le_trans W.tk ht⟩
end
theorem nb_cells:(("cells_own" : PS) == ("__debug__" : PS))=false:=by decide +kernel
theorem nb_seed:(("seed" : PS) == ("__debug__" : PS))=false:=by decide +kernel
theorem nb_many:(("many" : PS) == ("__debug__" : PS))=false:=by decide +kernel
theorem nb_found:(("found" : PS) == ("__debug__" : PS))=false:=by decide +kernel
theorem nb_deck:(("deck" : PS) == ("__debug__" : PS))=false:=by decide +kernel
theorem ne_cs:("cells_own" : PS)≠ "seed" ∧ ("many" : PS)≠ "seed" ∧ ("many" : PS)≠ "cells_own" ∧ ("cells_own" : PS)≠ "found" ∧ ("seed" : PS)≠ "found" ∧ ("many" : PS)≠ "found" := by decide +kernel
structure DK(env:Env)(m:PS→Option Value)(c e:Addr)(many:Nat):Prop where
 es:EnvS env
 kc:env.kindOf "cells_own" = some .local
 ks:env.kindOf "seed" = some .local
 km:env.kindOf "many" = some .local
 kf:env.kindOf "found" = some .local
 mc:m "cells_own" = some (.ref c)
 ms:m "seed" = some (.ref e)
 mm:∃ t,m "many" = some (.int many t)
 ce:c≠e
 cl:c≠env.locals
 el:e≠env.locals
 many:0 < many
theorem csOk.zero{cs:Array Value}(h:csOk cs)(z:0 < cs.size):∃ x t,cs[0]?=some (.int x t)∧0≤x∧x < 10 ^ 24:=by
 obtain⟨x,t,e,h1,h2⟩:=h.2 cs[0] (Array.getElem_mem z)
 exact⟨x,t,by rw [Array.getElem?_eq_getElem z,e],h1,h2⟩
theorem csOk.erase{cs:Array Value}(h:csOk cs)(z:0 < cs.size):csOk (cs.eraseIdxIfInBounds 0)∧(cs.eraseIdxIfInBounds 0).size < cs.size:=by
 obtain⟨l⟩:=cs
 cases l with
 | nil=>simp at z
 | cons a r =>
  have e:(Array.mk (a :: r)).eraseIdxIfInBounds 0=Array.mk r:=by
   have:=List.eraseIdxIfInBounds_toArray (l:=a :: r) (i:=0)
   exact this
  rw [e]
  refine ⟨⟨?_,fun w hw=>h.2 w ?_⟩,by simp⟩
  ·have:=h.1;simp at this ⊢;omega
  ·simp at hw ⊢;exact .inr hw
theorem csOk.set{cs:Array Value}(h:csOk cs){x:Int}{t:Tok}(h1:0≤x)(h2:x < 10 ^ 24):csOk (cs.setIfInBounds 0 (.int x t)):=by
 refine ⟨by rw [Array.size_setIfInBounds];exact h.1,fun w hw=>?_⟩
 rcases Array.mem_or_eq_of_mem_setIfInBounds hw with hw | rfl
 ·exact h.2 w hw
 ·exact⟨x,t,rfl,h1,h2⟩
section
variable{w:World}{A:Around}{env:Env}{m:PS→Option Value}{s0 s:Shared}{c e:Addr}{cs:Array Value}{seed:Int}{E:Value→Shared→Prop}{many:Nat}
theorem seedItem(D:DK env m c e many)(W:WS s0 env c e cs seed m s){p p2 p3:Pos}{i:Nat}:IE w A s.heap env (.Subscript (.Name "seed" p) (.Constant (.int 0) i p2) p3) seed :=
 let ⟨t,L⟩:=W.isE;.item D.es W.ns nb_seed D.ks D.ms L rfl
theorem cellItem(D:DK env m c e many)(W:WS s0 env c e cs seed m s){p p2 p3:Pos}{i:Nat}{x:Int}{t:Tok}(h:cs[0]?=some (.int x t)):IE w A s.heap env (.Subscript (.Name "cells_own" p) (.Constant (.int 0) i p2) p3) x :=
 .item D.es W.ns nb_cells D.kc D.mc W.isC h
theorem fmod_lt{a b:Int}(h:0 < b):0≤a.fmod b∧a.fmod b < b:=by
 rw [Int.fmod_eq_emod_of_nonneg a (Int.le_of_lt h)]
 exact⟨Int.emod_nonneg _ (Int.ne_of_gt h),Int.emod_lt_of_pos _ h⟩
set_option tactic.hygienic true in
theorem draw_loop(D:DK env m c e many)(W:WS s0 env c e cs seed m s)(hc:csOk cs)(hs:seedOk seed)(hu:A.units < cLine){q1 q2 q3 q4 q5 q6 q7 q8 q9 q10 q11 q12 r1 r2 r3 r4 r5 r6 r7 r8 r9 r10 r11 r12 r13 r14:Pos}{j1 j2 j3 k1 k2 k3 k4:Nat}(hp:r8.endLine=r10.line){Q:Flow→Shared→Prop}
  (q:∀ s' cs' seed',WS s0 env c e cs' seed' m s'→csOk cs'→seedOk seed'→Q .next s') :
  wpAny (model prog w) A (exec (.While (.BoolOp .And [.Compare (.Name "cells_own" q1) [.NotEq] [.List [] q2] q3,.Compare (.Subscript (.Name "cells_own" q4) (.Constant (.int 0) j1 q5) q6) [.Lt] [.BinOp (.Constant (.int 10) j2 q7) .Pow (.Constant (.int 6) j3 q8) q9] q10] q11)
   [.Assign [.Subscript (.Name "seed" r1) (.Constant (.int 0) k1 r2) r3] (.BinOp (.BinOp (.Subscript (.Name "seed" r4) (.Constant (.int 0) k2 r5) r6) .Add (.Call (.Attribute (.Name "cells_own" r7) "pop" r8) [.Constant (.int 0) k3 r9] [] r10) r11) .Mod (.Constant (.int 1000003) k4 r12) r13) r14] [] q12) env) Q E s:=by
 refine wpAny_While (codeAny_whileLoop (fun k s'=>∃ cs seed,cs.size=k∧WS s0 env c e cs seed m s'∧csOk cs∧seedOk seed) (fun k s1 I=>?_) cs.size ⟨cs,seed,rfl,W,hc,hs⟩)
 obtain⟨cs,seed,rfl,W,hc,hs⟩:=I
 refine isTrue_and (nenil_ok W D.es nb_cells D.kc D.mc hu fun s2 W2=>?_)
 by_cases hz:0 < cs.size
 ·rw [decide_eq_true hz]
  simp only [if_true]
  obtain⟨x,t,hx,x1,x2⟩:=hc.zero hz
  refine isTrue_and (wpAny_isTrue_Compare1 ((cellItem D W2 hx).ev rfl fun t1 tk1 l1 _=>?_) rfl)
  refine wpAny_BinOp (wpAny_Constant_int (wpAny_Constant_int ?_))
  refine PySem.AutoIntOps.pow_4 (by decide) (by decide) (by decide) (by decide) (by decide +kernel) ?_
  refine PyProof.Rows.lt_int (wpAny_truthy_bool ?_)
  have W3:=W2.tok (t:=tk1 + 1 + 1 + 1) (Nat.le_trans l1 (by omega))
  cases hb:decide (x < (10:Int) ^ (6:Int).toNat) with
  | false =>
   simp only [Bool.false_eq_true,if_false]
   exact wpAny_execs_nil (q _ cs seed W3 hc hs)
  | true =>
   simp only [if_true]
   refine isTrue_and_nil ?_
   simp only [if_true]
   refine wpAny_execs_cons (setAt0 D.es nb_seed D.ks D.ms rfl ?_)
   refine wpAny_BinOp (wpAny_BinOp ((seedItem D W3).ev rfl fun t4 tk4 l4 _=>?_))
   have W4:=W3.tok l4
   refine pop0_ok W4 D.es nb_cells D.kc D.mc hp D.ce.symm D.cl.symm hx hc.1 fun s5 W5 l5=>?_
   refine add_int (wpAny_Constant_int ?_)
   refine PyProof.Rows.mod_int' (by decide) ?_
   have W6:=W5.tok (t:=s5.toks + 1 + 1 + 1) (by omega)
   obtain⟨n6,t6,g6⟩:=W6.he
   refine ⟨W6.ns,_,n6,g6,by simp,fun h' n' tk' g' hs' lt'=>?_⟩
   obtain⟨e1,e2⟩:=hc.erase hz
   have b:=fmod_lt (a:=seed + x) (b:=1000003) (by decide)
   exact wpAny_execs_nil ⟨_,e2,_,_,rfl,W6.setE g' hs' D.ce D.el.symm lt',e1,⟨b.1,by omega⟩⟩
 ·rw [decide_eq_false hz]
  simp only [Bool.false_eq_true,if_false]
  exact wpAny_execs_nil (q _ cs seed W2 hc hs)
end
theorem noPy_left{x y:Int}(h0:0≤x)(h:x < 10 ^ 24):Builtin.divisionGoesByPylong x y=false:=by
 have e1:((10:Int) ^ 24)=1000000000000000000000000:=by decide +kernel
 have e2:(2:Nat) ^ 90=1237940039285380274899124224:=by decide +kernel
 have hl:x.natAbs.log2 < 90:=by
  by_cases z:x.natAbs=0
  ·rw [z];decide
  ·refine (Nat.log2_lt z).mpr ?_
   rw [e2];rw [e1] at h;omega
 unfold Builtin.divisionGoesByPylong
 have:∀ k:Nat,decide ((if x == 0 then 0 else x.natAbs.log2 / 30 + 1) > k + 150)=false:=fun k=>by
  rw [decide_eq_false_iff_not]
  split <;> omega
 simp only [this,Bool.and_false]
theorem mul_seed{z:Int}(h:seedOk z):IntMulOk z z:=by
 have k:z.natAbs < 2 ^ 1048576:=by
  have h1:=h.1
  have h2:=h.2
  have e1:((10:Int) ^ 25)=10000000000000000000000000:=by decide +kernel
  have e2:(2:Nat) ^ 84=19342813113834066795298816:=by decide +kernel
  rw [e1] at h2
  have h3:z.natAbs < 2 ^ 84:=by rw [e2];omega
  exact Nat.lt_of_lt_of_le h3 (Nat.pow_le_pow_right (by decide) (by decide))
 have b:Builtin.Int.intBits z≤1048576:=intBits_le_iff.mpr k
 have b:Builtin.Int.intBits z≤2 ^ 20:=b
 exact IntMulOk.of_bits b b
section
variable{w:World}{A:Around}{env:Env}{m:PS→Option Value}{s0 s:Shared}{c e:Addr}{cs:Array Value}{seed:Int}{E:Value→Shared→Prop}{many:Nat}
noncomputable def DrawEnd(s0:Shared)(env:Env)(c e:Addr)(many:Nat)(fl:Flow)(s':Shared):Prop:=∃ (z:Int) (t:Tok) (cs':Array Value) (seed':Int) (m':PS→Option Value),fl=.ret (.int z t)∧0≤z∧z < many∧s0.toks≤t∧WS s0 env c e cs' seed' m' s'∧csOk cs'∧seedOk seed'
set_option tactic.hygienic true in
theorem draw_if(D:DK env m c e many)(W:WS s0 env c e cs seed m s)(hc:csOk cs)(hs:seedOk seed)(hu:A.units < cLine){q1 q2 q3 q4 p1 p2 p3 p4 p5 p6 p7 r1 r2 r3 r4 r5 r6 r7 r8 r9 x1 x2:Pos}{k1 k2 k3:Nat}{Q:Flow→Shared→Prop}
  (q:∀ s' cs' seed',WS s0 env c e cs' seed' m s'→csOk cs'→seedOk seed'→Q .next s') (qr:∀ fl s',DrawEnd s0 env c e many fl s'→Q fl s') :
  wpAny (model prog w) A (exec (.If (.Compare (.Name "cells_own" q1) [.NotEq] [.List [] q2] q3)
   [.Assign [.Name "found" p1] (.BinOp (.Subscript (.Name "cells_own" p2) (.Constant (.int 0) k1 p3) p4) .Mod (.Name "many" p5) p6) p7,
   .Assign [.Subscript (.Name "cells_own" r1) (.Constant (.int 0) k2 r2) r3] (.BinOp (.Subscript (.Name "cells_own" r4) (.Constant (.int 0) k3 r5) r6) .FloorDiv (.Name "many" r7) r8) r9,
   .Return (some (.Name "found" x1)) x2] [] q4) env) Q E s:=by
 have hm1:=D.many
 obtain⟨tm,hmm⟩:=D.mm
 refine wpAny_If (nenil_ok W D.es nb_cells D.kc D.mc hu fun s2 W2=>?_)
 by_cases hz:0 < cs.size
 ·rw [decide_eq_true hz]
  simp only [if_true]
  obtain⟨x,t,hx,y1,y2⟩:=hc.zero hz
  have hmp:(0:Int) < many:=Int.ofNat_lt.mpr hm1
  have hm0:(many:Int)≠0:=Int.ne_of_gt hmp
  have i1:IE w A s2.heap env (.Name "many" p5) many:=.name D.es W2.ns nb_many D.km hmm
  refine wpAny_execs_cons (wpAny_Assign_Name ((IE.mod (cellItem D W2 hx) i1 hm0).ev rfl fun t3 tk3 l3 b3=>?_) (swaps0 rfl))
  have W3:=W2.tok l3
  refine wpAny_storeName_local (s:={ s2 with toks:=tk3 }) D.kf W3.ns (fun h4 n4 s4=>?_) (by rw [D.es.kind];rfl)
  obtain⟨m4,hm4⟩:∃ m4:PS→Option Value,∀ y,m4 y=if y=("found" : PS) then some (Value.int (x.fmod many) t3) else m y:=⟨_,fun _=>rfl⟩
  have n4:h4.Ns env.locals m4:=by rw [show m4=_ from funext hm4];exact n4
  have W4:=W3.setM (h':=h4) n4 s4 D.cl D.el (Nat.le_succ tk3)
  have nf:=ne_cs
  have m4c:m4 "cells_own" = some (.ref c):=by rw [hm4,if_neg nf.2.2.2.1];exact D.mc
  have m4m:m4 "many" = some (.int many tm):=by rw [hm4,if_neg nf.2.2.2.2.2];exact hmm
  have m4f:m4 "found" = some (.int (x.fmod many) t3):=by rw [hm4,if_pos rfl]
  refine wpAny_execs_cons (setAt0 D.es nb_cells D.kc m4c rfl ?_)
  have i2:IE w A h4 env (.BinOp (.Subscript (.Name "cells_own" r4) (.Constant (.int 0) k3 r5) r6) .FloorDiv (.Name "many" r7) r8) (x.fdiv many) :=
   .fdiv (.item D.es W4.ns nb_cells D.kc m4c W4.isC hx) (.name D.es W4.ns nb_many D.km m4m) hm0 (noPy_left y1 y2)
  refine i2.ev rfl fun t5 tk5 l5 b5=>?_
  have W5:=W4.tok l5
  obtain⟨n5,g5⟩:=W5.hc
  refine ⟨W5.ns,_,n5,g5,hz,fun h' n' tk' g' hs' lt'=>?_⟩
  have W6:=W5.setC g' hs' D.ce.symm D.cl.symm lt'
  have dv:0≤x.fdiv many∧x.fdiv many < 10 ^ 24:=by
   rw [Int.fdiv_eq_ediv_of_nonneg x (Int.le_of_lt hmp)]
   exact⟨Int.ediv_nonneg y1 (Int.le_of_lt hmp),Int.lt_of_le_of_lt (Int.ediv_le_self _ y1) y2⟩
  have fm:=fmod_lt (a:=x) (b:=many) hmp
  refine wpAny_execs_cons (wpAny_Return_some (name_ev D.es nb_found D.kf W6.ns m4f ?_))
  exact qr _ _ ⟨_,t3,_,seed,_,rfl,fm.1,fm.2,Nat.le_trans W2.tk (b3 rfl),W6,hc.set dv.1 dv.2,hs⟩
 ·rw [decide_eq_false hz]
  simp only [Bool.false_eq_true,if_false]
  exact wpAny_execs_nil (q _ cs seed W2 hc hs)
theorem draw_seed(D:DK env m c e many)(W:WS s0 env c e cs seed m s)(hc:csOk cs)(hs:seedOk seed){p1 p2 p3 p4 p5 p6 p7 p8 p9 p10 p11 p12 p13 p14 p15 p16 p17 p18 p19 p20 r1 r2 r3 r4 r5 r6 r7 r8 r9 r10 r11 r12 r13 r14 r15 r16 r17:Pos}{k1 k2 k3 k4 k5 k6 k7 k8 k9 k10 k11 k12:Nat}{Q:Flow→Shared→Prop}
  (qr:∀ fl s',DrawEnd s0 env c e many fl s'→Q fl s') :
  wpAny (model prog w) A (execs [.Assign [.Subscript (.Name "seed" p1) (.Constant (.int 0) k1 p2) p3] (.BinOp (.BinOp (.BinOp (.BinOp (.Subscript (.Name "seed" p4) (.Constant (.int 0) k2 p5) p6) .Mult (.Subscript (.Name "seed" p7) (.Constant (.int 0) k3 p8) p9) p10) .Add (.BinOp (.Constant (.int 3) k4 p11) .Mult (.Subscript (.Name "seed" p12) (.Constant (.int 0) k5 p13) p14) p15) p16) .Add (.Constant (.int 7919) k6 p17) p18) .Mod (.Constant (.int 1000003) k7 p19) p20) r17,
   .Return (some (.BinOp (.BinOp (.BinOp (.Subscript (.Name "seed" r1) (.Constant (.int 0) k8 r2) r3) .FloorDiv (.Constant (.int 7) k9 r4) r5) .Add (.BinOp (.BinOp (.Subscript (.Name "seed" r6) (.Constant (.int 0) k10 r7) r8) .Mod (.Constant (.int 7) k11 r9) r10) .Mult (.Constant (.int 142861) k12 r11) r12) r13) .Mod (.Name "many" r14) r15)) r16] env) Q E s:=by
 have hm1:=D.many
 obtain⟨tm,hmm⟩:=D.mm
 refine wpAny_execs_cons (setAt0 D.es nb_seed D.ks D.ms rfl ?_)
 refine (IE.mod (.add (.add (.mul (seedItem D W) (seedItem D W) (mul_seed hs)) (.mul .int (seedItem D W) (IntMulOk.of_left (by decide)))) .int) .int (by decide)).ev rfl fun t1 tk1 l1 _=>?_
 have W1:=W.tok l1
 obtain⟨n1,t1',g1⟩:=W1.he
 refine ⟨W1.ns,_,n1,g1,by simp,fun h' n' tk' g' hs' lt'=>?_⟩
 have b:=fmod_lt (a:=seed * seed + 3 * seed + 7919) (b:=1000003) (by decide)
 have W2:=W1.setE g' hs' D.ce D.el.symm lt'
 have s2:seedOk ((seed * seed + 3 * seed + 7919).fmod 1000003):=⟨b.1,by omega⟩
 have hmp:(0:Int) < many:=Int.ofNat_lt.mpr hm1
 have fm:=fun a=>fmod_lt (a:=a) (b:=many) hmp
 refine wpAny_execs_cons (wpAny_Return_some ?_)
 refine (IE.mod (.add (.fdiv (seedItem D W2) .int (by decide) (PyProof.noPylong_small (by decide))) (.mul (.mod (seedItem D W2) .int (by decide)) .int (IntMulOk.of_right (by decide)))) (.name D.es W2.ns nb_many D.km hmm) (Int.ne_of_gt hmp)).ev rfl fun t3 tk3 l3 b3=>?_
 exact qr _ _ ⟨_,t3,cs,_,m,rfl,(fm _).1,(fm _).2,Nat.le_trans W2.tk (b3 rfl),W2.tok l3,hc,s2⟩
end
structure PF(w:World)(i:Nat)(prms:List Nat)(body:List Stmt)(sc:Scope):Prop where
 of:∃ o fdat,(KF w.params).lookup (ZZ.fnA i)=some o∧o.data=.func fdat∧fdat.body=.stmts body∧fdat.scope=sc∧fdat.scope.isCoroutine=false∧fdat.scope.isGenerator=false∧fdat.scope.kind=.function∧fdat.globals=mainGlobals∧fdat.builtins=builtinsNs∧fdat.closure=[] ∧
  codeIn (KF w.params) fdat.code fdat.qualname=true∧PlainP fdat (prms.map nmS)∧(∀ x∈prms,x < names.length∧(fdat.scope.names.lookup (nmS x)=some .local∨fdat.scope.names.lookup (nmS x)=some .cell))∧fdat.defaults=.none
theorem pf_of{w:World}{i:Nat}{prms:List Nat}{st:Stmt}{b:Option FuncBody}{c:Option Scope}(h:fnOk w.params i ⟨0,prms,[],Yn⟩=true)(hb:(fdAt w.params i).map (·.body)=some (.stmts (MH.fnBody st)))(hs:(fdAt w.params i).map (·.scope)=some (MH.fnScope st)):PF w i prms (MH.fnBody st) (MH.fnScope st):=by
 unfold fnOk at h
 cases hd:fdAt w.params i with
 | none=>rw [hd] at hb;cases hb
 | some fdat =>
  rw [hd] at h hb hs
  have hb:=Option.some.inj hb
  have hs:=Option.some.inj hs
  obtain⟨o,ho,hfd⟩:=fdAt_ok hd
  simp only [Bool.and_eq_true,Bool.not_eq_true',beq_iff_eq,List.isEmpty_iff] at h
  obtain⟨⟨⟨⟨⟨⟨⟨⟨a1,a2⟩,a3⟩,a4⟩,a5⟩,a6⟩,a7⟩,a8⟩,a9⟩:=h
  obtain⟨pp,pl⟩:=parsOk_ok a8
  exact⟨o,_,ho,hfd,hb,hs,a1,a2,a3,a4,a5,a6,a7,pp,pl,eq_of_beq a9⟩
section
variable{w:World}{hd:Bool}{X:Addr→Prop}{γ γ' γ₁ γ₂:Gh}{h h':Heap}{s s' s₁ s₂:Shared}{H H':HT}{n n' N:Nat}{A:Around}{env:Env}{l l':FL}{k kx:KV}
structure NewF(w:World)(sc:Scope)(γ:Gh)(H:HT)(n:Nat)(s:Shared)(l:FL)(env:Env)(γ1:Gh)(s1:Shared):Prop where
 sc:env.scope=sc
 es:EnvS env
 R:Rel ZZ w γ1 H n s1
 K:Kp NX γ s.heap γ1 s1.heap
 en:EnvR ZZ γ1 s1.heap env l
 xs:∀ b,Xs env b→s.heap.objs.size≤b∨γ.own b=.free
 oL:γ1.own env.locals=.env
 F:Fro s s1
theorem call_prim{i:Nat}{prms:List Nat}{body:List Stmt}{sc:Scope}(P:PF w i prms body sc)(hroom:A.depth < recursionLimit)(R:Rel ZZ w γ H n s){rvs:List Value}(B:PB ZZ γ s.heap l ((prms.map nmS).zip rvs))(hl:rvs.length=prms.length)
  (q:∀ env γ1 s1,NewF w sc γ H n s l env γ1 s1→wpAny (model prog w) (A.deeper env) (execs body env) (fun f s2=>∃ v,f=.ret v∧PostV ZZ w NX γ s k v s2) (fun _ _=>False) s1):codeAny (model prog w) A (.call (.ref (ZZ.fnA i)) ⟨rvs,[]⟩) (CallR ZZ w γ s k kx) s:=by
 obtain⟨o,fdat,e1,e2,e3,e4,a1,a2,a3,a4,a5,a6,a7,pp,pl,a9⟩:=P.of
 refine codeAny_call_function hroom (R.st _ _ e1) e2 a1 a2 e3 (codeRec_of R.st a7) ((BindsTo.of_eq (bind_plain (vals:=rvs) pp a9 (by rw [List.length_map];exact hl))) _ _ _ _ ?_)
 rw [a4,a5,a6]
 refine newEnv_ok (l0:=.nil) R a3 ⟨(fun _ h=>nomatch h),.nil,(fun _ h=>nomatch h)⟩ (fun p hp=>?_) B (fun x v e=>by cases e) fun env s1 γ1 l1 e5 e6 es hl R1 K1 en1 xs oL fresh F1=>⟨R1.lim,codeAny_func ?_⟩
 ·obtain⟨x,hx,he⟩:=List.mem_map.mp (mem_zip_fst hp)
  rw [← he];exact (pl x hx).2
 ·refine wpAny_mono (q env γ1 s1 ⟨e5.trans e4,es,R1,K1,en1.sub fun y v e=>by rw [hl,e];rfl,xs,oL,F1⟩) (fun f s2 z=>?_) fun _ _ z=>z.elim
  obtain⟨v,rfl,z⟩:=z
  exact z
theorem NewF.nar{sc:Scope}(Nf:NewF w sc γ H n s l env γ₁ s₁){γ2:Gh}{h2:Heap}(K2:Kp (Xs env) γ₁ s₁.heap γ2 h2):Kp NX γ s.heap γ2 h2:=(Nf.K.nx.trans K2).widenF fun b hb=>.inr (Nf.xs b hb)
end
theorem f_prims(P:Params):(fnOk P 205 ⟨0,[228,28],[],Yn⟩ && fnOk P 204 ⟨0,[256],[],Yn⟩ && fnOk P 191 ⟨0,[2,11],[],Yn⟩ && fnOk P 207 ⟨0,[231],[],Yn⟩)=true:=by kernel_rfl
theorem f_pb(P:Params):[(fdAt P 205).map (·.body),(fdAt P 204).map (·.body),(fdAt P 191).map (·.body),(fdAt P 207).map (·.body)]=[some (.stmts (MH.fnBody (MH.stm 138))),some (.stmts (MH.fnBody (MH.stm 137))),some (.stmts (MH.fnBody (MH.subSt (MH.stm 133) 1))),some (.stmts (MH.fnBody (MH.stm 140)))]:=by kernel_rfl
theorem f_ps(P:Params):[(fdAt P 205).map (·.scope),(fdAt P 204).map (·.scope),(fdAt P 191).map (·.scope),(fdAt P 207).map (·.scope)]=[some (MH.fnScope (MH.stm 138)),some (MH.fnScope (MH.stm 137)),some (MH.fnScope (MH.subSt (MH.stm 133) 1)),some (MH.fnScope (MH.stm 140))]:=by kernel_rfl
theorem pf_all(w:World):PF w 205 [228,28] (MH.fnBody (MH.stm 138)) (MH.fnScope (MH.stm 138))∧PF w 204 [256] (MH.fnBody (MH.stm 137)) (MH.fnScope (MH.stm 137))∧PF w 191 [2,11] (MH.fnBody (MH.subSt (MH.stm 133) 1)) (MH.fnScope (MH.subSt (MH.stm 133) 1))∧PF w 207 [231] (MH.fnBody (MH.stm 140)) (MH.fnScope (MH.stm 140)):=by
 have f:=f_prims w.params
 have b:=f_pb w.params
 have s:=f_ps w.params
 rw [Bool.and_eq_true,Bool.and_eq_true,Bool.and_eq_true] at f
 obtain⟨b1,b⟩:=List.cons.inj b
 obtain⟨b2,b⟩:=List.cons.inj b
 obtain⟨b3,b⟩:=List.cons.inj b
 obtain⟨b4,_⟩:=List.cons.inj b
 obtain⟨s1,s⟩:=List.cons.inj s
 obtain⟨s2,s⟩:=List.cons.inj s
 obtain⟨s3,s⟩:=List.cons.inj s
 obtain⟨s4,_⟩:=List.cons.inj s
 exact⟨pf_of (b:=none) (c:=none) f.1.1.1 b1 s1,pf_of (b:=none) (c:=none) f.1.1.2 b2 s2,pf_of (b:=none) (c:=none) f.1.2 b3 s3,pf_of (b:=none) (c:=none) f.2 b4 s4⟩
noncomputable def drawSc:Scope:=MH.fnScope (MH.stm 138)
theorem draw_kinds:(["cells_own","seed","many","found","deck"]:List PS).all (fun x=>drawSc.names.lookup x == some .local)=true:=by kernel_rfl
theorem draw_kind{env:Env}(h:env.scope=drawSc){x:PS}(hx:x∈(["cells_own","seed","many","found","deck"]:List PS)):env.kindOf x=some .local:=by
 show env.scope.names.lookup x=_
 rw [h]
 exact eq_of_beq (List.all_eq_true.mp draw_kinds x hx)
theorem nm_dm:nmS 228= "deck" ∧ nmS 28= "many" := by refine ⟨?_,?_⟩ <;> decide +kernel
section
variable{w:World}{hd:Bool}{γ γ' γ₁ γ₂:Gh}{s s' s₁ s₂ s0:Shared}{H H':HT}{n n' N:Nat}{A:Around}{env:Env}{l l':FL}{k kx:KV}{a c e:Addr}{cs:Array Value}{seed:Int}{m:PS→Option Value}
theorem kx_exn(W:WS s0 env c e cs seed m s){b:Addr}{o:Obj}(g:s0.heap.get? b=some o)(f:γ.own b=.exn)(oc:γ.own c≠.exn)(oe:γ.own e≠.exn)(ol:γ.own env.locals≠.exn):s.heap.get? b=some o :=
 W.keep b o (fun z=>oc (z ▸ f)) (fun z=>oe (z ▸ f)) (fun z=>ol (z ▸ f)) g
theorem WS.kp(W:WS s0 env c e cs seed m s)(R:Rel ZZ w γ H n s0){i:Nat}{p q:Nat}(oc:γ.own c=.obj i p)(oe:γ.own e=.obj i q)(ol:γ.own env.locals=.env):Kp (Xs env) γ s0.heap γ s.heap:=by
 have ne:∀ {b:Addr} {o:Ow},γ.own b=o→(∀ i p,o≠.obj i p)→b≠c∧b≠e:=fun f g=>⟨fun z=>by rw [z,oc] at f;exact g _ _ f.symm,fun z=>by rw [z,oe] at f;exact g _ _ f.symm⟩
 have k:∀ b o,s0.heap.get? b=some o→(∀ i p,γ.own b≠.obj i p)→b≠env.locals→s.heap.get? b=some o:=fun b o g f nl=>W.keep b o (ne rfl f).1 (ne rfl f).2 nl g
 have kex:∀ b o,s0.heap.get? b=some o→γ.own b=.exn→s.heap.get? b=some o:=fun b o g f=>k b o g (by rw [f];exact fun _ _=>Ow.noConfusion) (fun z=>by rw [z,ol] at f;cases f)
 exact⟨W.le,fun _ _=>rfl,fun b o g f=>k b o g (by rw [f];exact fun _ _=>Ow.noConfusion) (fun z=>by rw [z,ol] at f;cases f),
  fun b o g f nx=>⟨o.slots,k b o g (by rw [f];exact fun _ _=>Ow.noConfusion) (fun z=>nx (.inl z))⟩,
  fun b o g f nx=>k b o g (by rw [f];exact fun _ _=>Ow.noConfusion) (fun z=>nx (.inl z)),
  fun b o fs g f d=>.same (kex b o g f) d (TbOk.keep kex (fun _ _=>rfl)),fun _ _ e=>⟨e,rfl⟩,fun _ _ e=>e,fun _ _=>rfl,rfl,fun _ e=>e⟩
theorem draw_rel(W:WS s0 env c e cs seed m s)(hc:csOk cs)(hs:seedOk seed)(R:Rel ZZ w γ H n s0){i:Nat}(hi:H.get i=.deck)(oa:γ.own a=.obj i 0)(oc:γ.own c=.obj i 1)(oe:γ.own e=.obj i 2)(ou:∀ b p,γ.own b=.obj i p→b=a∨b=c∨b=e)(ol:γ.own env.locals=.env)
  {na:Nat} (ga:s0.heap.get? a=some ⟨.type "list",none,.seq #[.ref c,.ref e] na,#[]⟩) {f:Nat→Option Int} {n':Nat} (hn:n≤n') (hr1:∀ i r,γ.rho i=some r→f i=some r) (hr2:∀ i,n'≤i→f i=none) :
  Rel ZZ w { γ with rho:=f } H n' s∧Kp (Xs env) γ s0.heap { γ with rho:=f } s.heap:=by
 have K:=W.kp R oc oe ol
 have K':Kp (Xs env) γ s0.heap { γ with rho:=f } s.heap:=⟨K.size,K.own,K.free,K.env,K.itr,fun b o fs g1 g2 g3=>let ⟨fs',x1,x2,x3,x4⟩:=K.exn b o fs g1 g2 g3;.same (kx_exn W g1 g2 (by rw [oc];exact Ow.noConfusion) (by rw [oe];exact Ow.noConfusion) (by rw [ol];exact Ow.noConfusion)) g3 (TbOk.keep (fun b o g f=>kx_exn W g f (by rw [oc];exact Ow.noConfusion) (by rw [oe];exact Ow.noConfusion) (by rw [ol];exact Ow.noConfusion)) (fun _ _=>rfl)),K.sg,hr1,K.pre,K.scr,K.obi⟩
 have ac:a≠c:=fun z=>by rw [z,oc] at oa;cases oa
 have ae:a≠e:=fun z=>by rw [z,oe] at oa;cases oa
 have al:a≠env.locals:=fun z=>by rw [z,ol] at oa;cases oa
 have lt:i < n:=by
  rcases Nat.lt_or_ge i n with q | q
  ·exact q
  ·rw [(R.fresh i q).1] at hi;cases hi
 refine ⟨R.upd K' ⟨rfl,rfl⟩ i (fun b j p ne q=>?_) (fun _ _ _ _=>Iff.rfl) ?_ (fun _ _=>rfl) (fun b q=>Nat.lt_of_lt_of_le (R.bnd b q) W.le) hn (Nat.lt_of_lt_of_le lt hn) hr2 R.obi id W.fr.1 W.tk,K'⟩
 ·obtain⟨o,g⟩:=R.there q
  rw [g]
  refine W.keep b o (fun z=>?_) (fun z=>?_) (fun z=>?_) g
  ·rw [z,oc] at q;cases q;exact ne rfl
  ·rw [z,oe] at q;cases q;exact ne rfl
  ·rw [z,ol] at q;cases q
 ·rw [hi]
  obtain⟨n1,g1⟩:=W.hc
  obtain⟨n2,t2,g2⟩:=W.he
  exact⟨a,c,e,⟨oa,oc,oe,ou⟩,na,n1,n2,cs,seed,t2,W.keep a _ ac ae al ga,g1,g2,hs.1,hs.2,hc.1,hc.2⟩
theorem allBelow_spec{m:Nat}{q:Nat→Bool}(h:allBelow m q=true):∀ c,c < m→q c=true:=by
 induction m with
 | zero=>intro c hc;exact absurd hc (Nat.not_lt_zero _)
 | succ m ih =>
  have h:@Bool.rec (fun _=>Bool) false (q m) (allBelow m q)=true:=h
  cases hq:allBelow m q with
  | false=>rw [hq] at h;cases h
  | true =>
   rw [hq] at h
   intro c hc
   rcases Nat.lt_succ_iff_lt_or_eq.mp hc with z | z
   ·exact ih hq c z
   ·rw [z];exact h
set_option tactic.hygienic true in
theorem draw_first{env:Env}(es:EnvS env)(kd:env.kindOf "deck" = some .local)(kc:env.kindOf "cells_own" = some .local)(ks:env.kindOf "seed" = some .local)(hh:HdOk A hd γ s0.heap)(hfr:γ.own s0.heap.objs.size≠.exn)(ns:s0.heap.Ns env.locals m)(md:m "deck" = some (.ref a)){na nc ne:Nat}{t:Tok}
  (ga:s0.heap.get? a=some ⟨.type "list",none,.seq #[.ref c,.ref e] na,#[]⟩) (gc:s0.heap.get? c=some ⟨.type "list",none,.seq cs nc,#[]⟩) (ge:s0.heap.get? e=some ⟨.type "list",none,.seq #[.int seed t] ne,#[]⟩) (cl:c≠env.locals) (el:e≠env.locals) {p1 p2 p3 p4 p5:Pos} {i:Nat} {Q:Flow→Shared→Prop} {E:Value→Shared→Prop}
  (q:∀ s' m',WS s0 env c e cs seed m' s'→m' "cells_own" = some (.ref c)→m' "seed" = some (.ref e)→m' "many" = m "many" → Q .next s') :
  wpAny (model prog w) A (exec (.Assign [.Tuple [.Name "cells_own" p1,.Name "seed" p2] i p3] (.Name "deck" p4) p5) env) Q E s0:=by
 refine Assign_Tuple (name_ev es nb_deck kd ns md ?_) rfl rfl
 rw [PyProof.Rows.assign_Tuple]
 unfold unpack
 refine wpAny_bind (wpAny_standAt (wpAny_bind (wpAny_holding ?_)))
 refine unpack2_ok hfr hh ga fun h1 k1 z1=>?_
 have W0:WS s0 env c e cs seed m s0:=⟨fun _ _ _ _ _ g=>g,Nat.le_refl _,⟨_,gc⟩,⟨_,_,ge⟩,ns,.refl _,Nat.le_refl _⟩
 have W1:=W0.more k1 z1
 refine assignInOrder_cons (assign_Name (wpAny_storeName_local (s:={ s0 with heap:=h1 }) kc W1.ns (fun h2 n2 s2=>?_) (by rw [es.kind];rfl)))
 have W2:=W1.setM n2 s2 cl el (Nat.le_succ s0.toks)
 refine assignInOrder_cons (assign_Name (wpAny_storeName_local (s:={ s0 with heap:=h2,toks:=s0.toks + 1 }) ks W2.ns (fun h3 n3 s3=>?_) (by rw [es.kind];rfl)))
 have W3:=W2.setM n3 s3 cl el (Nat.le_succ (s0.toks + 1))
 have nf:=ne_cs
 refine assignInOrder_nil (q _ _ W3 ?_ ?_ ?_)
 ·rw [if_neg nf.1,if_pos rfl]
 ·rw [if_pos rfl]
 ·rw [if_neg nf.2.1,if_neg nf.2.2.1]
theorem prim_draw{vs:VL}{rvs:List Value}(a1:A.depth + 1 + 3 * N≤690)(a2:A.units + 3 + 12 * N≤5000)(hh:HdOk A hd γ s.heap)(R:Rel ZZ w γ H n s)(vr:VRs ZZ γ s.heap vs rvs)(q:prim205 vs H n k=true):codeAny (model prog w) A (.call (.ref (ZZ.fnA 205)) ⟨rvs,[]⟩) (CallR ZZ w γ s k kx) s:=by
 obtain⟨u,u',ra,rm,rfl,rfl,v1,v2,q⟩:=as2_ok q vr
 obtain⟨d,rfl,q⟩:=asRef_ok q
 obtain⟨many,tm,rfl,_,htm,q⟩:=asNat_ok2 q v2
 obtain⟨a0,rfl,oa⟩:=v1
 obtain⟨hdk,q⟩:=brecT q
 have hdk:=isDeck_ok hdk
 have ob:=R.obj d
 rw [hdk] at ob
 obtain⟨a,c,e,oo,⟨n1,n2,n3,cs,seed,t,ga,gc,ge,s1,s2,z1,z2⟩⟩:=ob
 obtain rfl:=oo.at0 oa
 obtain⟨o1,o2,o3,o4⟩:=oo
 have hm0:0 < many:=by
  cases many with
  | zero=>exact ff q
  | succ _=>exact Nat.succ_pos _
 have lt:d < n:=by
  rcases Nat.lt_or_ge d n with z | z
  ·exact z
  ·rw [(R.fresh d z).1] at hdk;cases hdk
 have B:PB ZZ γ s.heap (.cons 228 (.ref d) (.cons 28 (.a (.int (.ofNat many))) .nil)) (([228,28].map nmS).zip [.ref a0,.int (Int.ofNat many) tm]) :=
  .cons (by decide +kernel) (.ref oa) rfl (.cons (by decide +kernel) (.int _ tm htm) rfl .nil)
 refine call_prim (pf_all w).1 (by show A.depth < 1000;omega) R B rfl fun env γ1 s1' Nf=>?_
 have nm:=nm_dm
 obtain⟨mm,hns,hol,_,hl⟩:=Nf.en
 have get:∀ x v,(FL.cons 228 (.ref d) (.cons 28 (.a (.int (.ofNat many))) .nil)).look x=some v→env.kindOf (nmS x)=some .local→∃ rv,mm (nmS x)=some rv∧VR ZZ γ1 s1'.heap v rv:=fun x v e hk=>by
  rcases (hl x v e).2 with ⟨_,rv,b,c⟩ | ⟨b,_⟩
  ·exact⟨rv,b,c⟩
  ·rcases b with b | b <;> (rw [hk] at b;cases b)
 have dk:∀ {x:PS},x∈(["cells_own","seed","many","found","deck"]:List PS)→env.kindOf x=some .local:=draw_kind Nf.sc
 obtain⟨rd,d1,d2⟩:=get 228 _ (by rfl) (by rw [nm.1];exact dk (by simp))
 obtain⟨rmm,m1,m2⟩:=get 28 _ (by rfl) (by rw [nm.2];exact dk (by simp))
 rw [nm.1] at d1
 rw [nm.2] at m1
 have own:∀ {b:Addr} {i p:Nat},γ.own b=.obj i p→γ1.own b=.obj i p:=fun e=>(Nf.K.own _ (R.bnd _ (by rw [e];exact Ow.noConfusion))).trans e
 have ob1:=Nf.R.obj d
 rw [hdk] at ob1
 obtain⟨a',c',e',oo',⟨n1,n2,n3,cs,seed,t,ga,gc,ge,s1,s2,z1,z2⟩⟩:=ob1
 obtain⟨ax,rfl,od⟩:=d2.ref_inv
 obtain⟨tm',rfl,_⟩:=m2
 obtain rfl:=oo'.at0 od
 obtain⟨o1',o2',o3',o4'⟩:=oo'
 have ce:c'≠e':=fun z=>by rw [z,o3'] at o2';cases o2'
 have cl:c'≠env.locals:=fun z=>by rw [z,hol] at o2';cases o2'
 have el:e'≠env.locals:=fun z=>by rw [z,hol] at o3';cases o3'
 have hu:(A.deeper env).units < cLine:=by
  have:AOk N (A.deeper env):=deep_ok a1 a2
  exact Nat.lt_of_le_of_lt (Nat.le_trans (Nat.le_add_right _ _) this.units) (by decide)
 have hh1:HdOk (A.deeper env) hd γ1 s1'.heap:=⟨hh.1,(hh.mono Nf.K).2⟩
 have fin:∀ fl s2,DrawEnd s1' env c' e' many fl s2→∃ v,fl=.ret v∧PostV ZZ w NX γ s k v s2:=fun fl s2 hD=>by
  obtain⟨z,tz,cs2,seed2,m2,rfl,y1,y2,y3,W,hc,hs⟩:=hD
  have tz0:tz≠0:=fun z=>by rw [z] at y3;exact Nf.R.tkn (Nat.le_zero.mp y3)
  refine ⟨_,rfl,?_⟩
  obtain⟨zn,rfl⟩:=Int.eq_ofNat_of_zero_le y1
  cases hb:Nat.beq many 90 with
  | true =>
   rw [hb] at q
   have q:k (.a (.num n 0)) H (n + 1)=true:=q
   have rn:γ1.rho n=none:=(Nf.R.fresh n (Nat.le_refl n)).2
   obtain⟨R2,K2⟩:=draw_rel W hc hs Nf.R hdk o1' o2' o3' o4' hol ga (f:=fun i=>if i=n then some (zn:Int) else γ1.rho i) (Nat.le_succ n) (fun i r e=>by
    rw [if_neg (fun z=>by rw [z,rn] at e;cases e)];exact e) (fun i hi=>by rw [if_neg (by omega)];exact (Nf.R.fresh i (by omega)).2)
   exact⟨_,H,n + 1,_,q,R2,Nf.nar K2,.num tz (r:=(zn:Int)) (if_pos rfl) (by simp),Nf.F.trans W.fr⟩
  | false =>
   rw [hb] at q
   have hb0:Nat.beq many 0=false:=by rw [beqE many 0];exact decide_eq_false (by omega)
   rw [hb0] at q
   have q2:=allBelow_spec q zn (by omega)
   have q2:k (natV zn) H n=true:=q2
   obtain⟨R2,K2⟩:=draw_rel W hc hs Nf.R hdk o1' o2' o3' o4' hol ga (f:=γ1.rho) (Nat.le_refl n) (fun i r e=>e) (fun i hi=>(Nf.R.fresh i hi).2)
   exact⟨natV zn,H,n,_,q2,R2,Nf.nar K2,.int _ tz tz0,Nf.F.trans W.fr⟩
 have run:∀ {body:List Stmt},body=MH.fnBody (MH.stm 138)→wpAny (model prog w) (A.deeper env) (execs body env) (fun fl s2=>DrawEnd s1' env c' e' many fl s2) (fun _ _=>False) s1':=fun hb=>by
  rw [hb]
  refine wpAny_execs_cons (draw_first (na:=n1) (nc:=n2) (ne:=n3) (t:=t) Nf.es (dk (by simp)) (dk (by simp)) (dk (by simp)) hh1 (by rw [Nf.R.freshFree (Nat.le_refl _)];exact Ow.noConfusion) hns d1 ga gc ge cl el fun s3 m3 W3 x1 x2 x3=>?_)
  have D:DK env m3 c' e' many:=⟨Nf.es,dk (by simp),dk (by simp),dk (by simp),dk (by simp),x1,x2,⟨tm',x3.trans m1⟩,ce,cl,el,hm0⟩
  refine wpAny_execs_cons (draw_loop D W3 ⟨z1,z2⟩ ⟨s1,s2⟩ hu (by rfl) fun s4 cs4 seed4 W4 hc4 hs4=>?_)
  refine wpAny_execs_cons (draw_if D W4 hc4 hs4 hu (fun s5 cs5 seed5 W5 hc5 hs5=>?_) fun fl s5 hD=>?_)
  ·exact draw_seed D W5 hc5 hs5 fun fl s6 hD=>hD
  ·obtain⟨z,tz,cs6,seed6,m6,rfl,r⟩:=hD
   exact⟨z,tz,cs6,seed6,m6,rfl,r⟩
 exact wpAny_mono (run rfl) (fun fl s2 z=>fin fl s2 z) fun _ _ z=>z
end
set_option tactic.hygienic true in
theorem chain_list{γ:Gh}{h:Heap}{e:Addr}(x:ChainOk γ h e):∃ C:List Addr,(∀ b∈C,γ.own b=.exn∧b < h.objs.size)∧∀ h':Heap,(∀ b∈C,∀ o,h.get? b=some o→h'.get? b=some o)→ChainOk γ h' e:=by
 induction x with
 | @last e o ovs a b c d=>exact⟨[e],fun b hb=>by obtain rfl:=List.mem_singleton.mp hb;exact⟨c,Heap.lt_size a⟩,fun h' k=>.last (k e (.head _) _ a) b c d⟩
 | @next e c' o ovs a b c d lt _ ih =>
  obtain⟨C,h1,h2⟩:=ih
  refine ⟨e :: C,fun x hx=>?_,fun h' k=>.next (k e (.head _) _ a) b c d lt (h2 h' fun x hx=>k x (.tail _ hx))⟩
  rcases List.mem_cons.mp hx with rfl | hx
  ·exact⟨c,Heap.lt_size a⟩
  ·exact h1 x hx
theorem HdOk.chain{A:Around}{hd:Bool}{γ:Gh}{h:Heap}(x:HdOk A hd γ h):∃ C:List Addr,(∀ b∈C,γ.own b=.exn∧b < h.objs.size)∧∀ h':Heap,(∀ b∈C,∀ o,h.get? b=some o→h'.get? b=some o)→HdOk A hd γ h':=by
 obtain⟨a,b⟩:=x
 rcases b with b | ⟨e,b,c⟩
 ·exact⟨[],(fun _ h=>nomatch h),fun _ _=>⟨a,.inl b⟩⟩
 ·obtain⟨C,h1,h2⟩:=chain_list c
  exact⟨C,h1,fun h' k=>⟨a,.inr ⟨e,b,h2 h' k⟩⟩⟩
theorem walksL{w:World}{A:Around}{hd:Bool}{γ:Gh}{h0:Heap}{C:List Addr}(hC:∀ b∈C,γ.own b=.exn∧b < h0.objs.size)(hk:∀ h':Heap,(∀ b∈C,∀ o,h0.get? b=some o→h'.get? b=some o)→HdOk A hd γ h')(I ax:Addr)(hne:ax≠I)(ow:γ.own I≠.exn)(items:Array Value) :
  Walks prog w A I (I :: ax :: C) [I] items.size (fun i v=>items[i]?=some v) (fun i h=>h.IsListIter I ax i∧h.IsList ax items∧∀ b∈C,∀ o,h0.get? b=some o→h.get? b=some o) where
 sub:=fun b hb=>by obtain rfl:=List.mem_singleton.mp hb;exact .head _
 frame:=fun _ _ _ st k=>⟨st.1.at fun o e=>k I (.head _) o e,st.2.1.at fun o e=>k ax (.tail _ (.head _)) o e,fun b hb o e=>k b (.tail _ (.tail _ hb)) o (st.2.2 b hb o e)⟩
 item:=fun i s Q E hi st hQ=>by
  refine wpAny_pyNext_list_item st.1 st.2.1 (x:=items[i]) (by simp [hi]) fun h' hit' hs'=>?_
  exact hQ _ h' s.toks (by simp [hi]) ⟨hit',st.2.1.extBut hs'.extBut hne,fun b hb o e=>(hs'.2 b (fun z=>ow (by rw [← z];exact (hC b hb).1))).trans (st.2.2 b hb o e)⟩ fun b o hb e=>hs'.extBut b o (fun h=>hb (by simp [h])) e
 done:=fun s Q E st hQ=>list_end (hk _ st.2.2) ow st.1 st.2.1 (by simp) fun h' he=>hQ h' s.toks fun b o hb e=>he.keep b o (fun h=>hb (by simp [h])) e
 self:=fun _ _ _ _ st hQ=>wpAny_pyIter_listiter st.1 hQ
section
variable{w:World}{A:Around}{env:Env}{s:Shared}{E Q:Value→Shared→Prop}
theorem blt_call{f:PS}{id:String}{p1 p2:Pos}{e:PX}(es:EnvS env)(kd:env.kindOf f=some .globalImplicit)(nb:(f == ("__debug__" : PS))=false)(g:globIn (KF w.params) f=some (.builtin id))(st:(KF w.params).In s.heap)(hp:∀ env,starEach [e] env=(false,eval e env) :: starEach [] env)
  (h:wpAny (model prog w) A (eval e env) (fun v s1=>wpAny (model prog w) A (PySem.call (.builtin id) [v]) Q E s1) E s):wpAny (model prog w) A (eval (.Call (.Name f p1) [e] [] p2) env) Q E s:=by
 refine Call_ (wpAny_Name (loadName_global es.kind kd (loadGlobal_ok (Z:=ZZ) st g es.glob es.blt ?_)) nb) rfl
 have hq:(backTo p2 (starEach [e] env)).any (·.1)=false:=by rw [hp];rfl
 refine callWith_of (P:=fun h=>KeepJ w h (.builtin id)) (by rw [hq];rfl) (fun h x=>x) (evalArgs_spliced hq ?_)
 refine spliced_more (wpAny_mono h (fun v s1 z=>spliced_none ⟨⟨.machine,.inr (.inl rfl),.now⟩,z⟩) fun _ _ z=>z) (hp env)
end
theorem f_blts(P:Params):(globIn (KF P) "abs" == some (.builtin "abs") && globIn (KF P) "sum" == some (.builtin "sum") && globIn (KF P) "len" == some (.builtin "len"))=true:=by kernel_rfl
noncomputable def deckSc:Scope:=MH.fnScope (MH.stm 137)
theorem deck_kinds:((["cells_own","script"]:List PS).all (fun x=>deckSc.names.lookup x == some .local) && (["sum","len"]:List PS).all (fun x=>deckSc.names.lookup x == some .globalImplicit))=true:=by kernel_rfl
theorem deck_kind{env:Env}(h:env.scope=deckSc):env.kindOf "cells_own" = some .local∧env.kindOf "script" = some .local∧env.kindOf "sum" = some .globalImplicit∧env.kindOf "len" = some .globalImplicit:=by
 have q:=deck_kinds
 rw [Bool.and_eq_true,List.all_eq_true,List.all_eq_true] at q
 have k:∀ {x:PS} {z},deckSc.names.lookup x=z→env.kindOf x=z:=fun e=>by
  show env.scope.names.lookup _=_
  rw [h];exact e
 exact⟨k (eq_of_beq (q.1 "cells_own" (by simp))),k (eq_of_beq (q.1 "script" (by simp))),k (eq_of_beq (q.2 "sum" (by simp))),k (eq_of_beq (q.2 "len" (by simp)))⟩
theorem nb_more:(("script" : PS) == ("__debug__" : PS))=false∧(("cell" : PS) == ("__debug__" : PS))=false∧(("abs" : PS) == ("__debug__" : PS))=false∧(("sum" : PS) == ("__debug__" : PS))=false∧(("len" : PS) == ("__debug__" : PS))=false:=by decide +kernel
noncomputable def cellScOk(sc:Scope):Bool:=sc.kind == .function && sc.names.all (fun x=>(x.2 != .free) && (x.2 != .cell) && (x.2 != .local || sc.names.lookup x.1 == some .local)) && sc.names.lookup ("cell" : PS) == some .local && sc.names.lookup ("abs" : PS) == some .globalImplicit
theorem pair_mem{α β:Type}{F:α→β→Prop}{l:List α}{r:List β}(h:Paired F l r):∀ y∈r,∃ x∈l,F x y:=by
 induction h with
 | nil=>exact fun y hy=>nomatch hy
 | cons f _ ih =>
  intro y hy
  rcases List.mem_cons.mp hy with rfl | hy
  ·exact⟨_,.head _,f⟩
  ·obtain⟨x,hx,e⟩:=ih y hy
   exact⟨x,.tail _ hx,e⟩
section
variable{w:World}{A:Around}{env:Env}{s:Shared}{hd:Bool}{γ:Gh}{m:PS→Option Value}
set_option tactic.hygienic true in
theorem deck_cells{scope:Scope}{p1 p2 p3 p4 p5 p6 p7 p8 p9 q1 q2 q3 q4 pos spos:Pos}{i1 i2 i3:Nat}(es:EnvS env)(k1:env.kindOf "cells_own" = some .local)(k2:env.kindOf "script" = some .local)(sc:cellScOk scope=true)(hh:HdOk A hd γ s.heap)(fr:∀ b,s.heap.objs.size≤b→γ.own b≠.exn)(st:(KF w.params).In s.heap)
  (hs0:∀ env:Env,env.scope.kind=.function→env.kindOf "cells_own" = some .local→swapsWith (.ListComp (.BinOp (.Call (.Name "abs" p1) [.Name "cell" p2] [] p3) .Mod (.BinOp (.Constant (.int 10) i1 p4) .Pow (.Constant (.int 24) i2 p5) p6) p7) [⟨.Name "cell" p8,.Subscript (.Name "script" p9) (.Slice none (some (.Constant (.int 10) i3 q1)) none q2) q3,[],0⟩] scope pos) (some (.Name "cells_own" q4)) spos.line env=pure true)
  (ns:s.heap.Ns env.locals m) {a:Addr} {ws:Array Value} {na:Nat} (md:m "script" = some (.ref a)) (ga:s.heap.get? a=some ⟨.type "list",none,.seq ws na,#[]⟩) (hw:ws.size≤63) (hi:∀ v∈ws,∃ z t,v=.int z t) {Q:Flow→Shared→Prop} {E:Value→Shared→Prop}
  (q:∀ D h' tk ys n,s.heap.objs.size≤D→h'.get? D=some ⟨.type "list",none,.seq ys n,#[]⟩→csOk ys→h'.Ns env.locals (fun z=>if z= "cells_own" then some (.ref D) else m z)→(∀ b o,b≠env.locals→s.heap.get? b=some o→h'.get? b=some o)→Q .next { s with heap:=h',toks:=tk }) :
  wpAny (model prog w) A (exec (.Assign [.Name "cells_own" q4] (.ListComp (.BinOp (.Call (.Name "abs" p1) [.Name "cell" p2] [] p3) .Mod (.BinOp (.Constant (.int 10) i1 p4) .Pow (.Constant (.int 24) i2 p5) p6) p7) [⟨.Name "cell" p8,.Subscript (.Name "script" p9) (.Slice none (some (.Constant (.int 10) i3 q1)) none q2) q3,[],0⟩] scope pos) spos) env) Q E s:=by
 have nb:=nb_more
 unfold cellScOk at sc
 simp only [Bool.and_eq_true,beq_iff_eq,List.all_eq_true,Bool.or_eq_true,bne_iff_ne,ne_eq] at sc
 obtain⟨⟨⟨c1,c2⟩,c3⟩,c4⟩:=sc
 rw [exec_Assign_Name_used _ _ _ _ (hs0 env es.kind k1)]
 refine wpAny_bind (wpAny_standAt (wpAny_bind ?_))
 show wpAny _ A (do let _ ← comprehension _ scope env _ (newList []) false (eval (.Subscript (.Name "script" p9) (.Slice none (some (.Constant (.int 10) i3 q1)) none q2) q3) env) (some (assign (.Name "cells_own" q4) env))) _ _ s
 refine wpAny_bind (wpAny_mono (wpAny_comprehension_use (Q:=fun _ s'=>Q .next s') rfl (fun _=>rfl) (fun z hz=>(c2 z hz).1.1) c1 (fun z hz e=>(c2 z hz).2.resolve_left fun f=>f e) ?_) (fun _ s' hq=>wpAny_pure (wpAny_pure hq)) fun _ _ e=>e)
 refine wpAny_Subscript_list_slice (name_ev es nb.1 k2 ns md ?_)
 rw [evalPart_none,evalPart_some]
 refine wpAny_pure (wpAny_Constant_int ⟨a,ws,none,some 10,rfl,⟨_,ga,rfl,na,rfl⟩,Nat.le_trans hw (by decide),.none,.int _ _,?_⟩)
 show wpAny (model prog w) A (pyIter (.ref (s.heap.objs.size + 1))) _ E { s with heap:=(s.heap.push { cls:=.type "slice",data:=.fields #[Value.none,.int 10 s.toks,.none] }).push { cls:=.type "list",data:=.seq (slicePick ws none (some 10) none) },toks:=s.toks + 1 }
 generalize hh1:(s.heap.push { cls:=.type "slice",data:=.fields #[Value.none,.int 10 s.toks,.none] }).push { cls:=.type "list",data:=.seq (slicePick ws none (some 10) none) }=h1
 have z1:h1.objs.size=s.heap.objs.size + 1 + 1:=by rw [← hh1,Heap.size_push,Heap.size_push]
 have k1':∀ b o,s.heap.get? b=some o→h1.get? b=some o:=fun b o g=>by rw [← hh1];exact Heap.get?_push_of_some _ (Heap.get?_push_of_some _ g)
 have g1:h1.get? (s.heap.objs.size + 1)=some ⟨.type "list",none,.seq (slicePick ws none (some 10) none) 0,#[]⟩:=by
  have:=Heap.get?_push_size (h:=s.heap.push { cls:=.type "slice",data:=.fields #[Value.none,.int 10 s.toks,.none] }) (o:={ cls:=.type "list",data:=.seq (slicePick ws none (some 10) none) }) rfl
  rw [Heap.size_push,hh1] at this
  exact this
 have hp:slicePick ws none (some 10) none=(ws.toList.take 10).toArray:=slicePick_upto' ws 10
 rw [hp] at g1
 generalize hxs:ws.toList.take 10=xs at g1
 have lx:xs.length≤10:=by rw [← hxs];exact List.length_take_le _ _
 have ix:∀ v∈xs,∃ z t,v=.int z t:=fun v hv=>hi v (by rw [← hxs] at hv;exact Array.mem_toList_iff.mp (List.mem_of_mem_take hv))
 refine wpAny_pyIter_list (s:={ s with heap:=h1,toks:=s.toks + 1 }) ⟨_,g1,rfl,0,rfl⟩ ?_
 obtain⟨C,hC,hk⟩:=hh.chain
 have k2:∀ b o,s.heap.get? b=some o→(h1.push { cls:=.type "list_iterator",data:=.fields #[.ref (s.heap.objs.size + 1),.int 0 0] }).get? b=some o:=fun b o g=>Heap.get?_push_of_some _ (k1' b o g)
 have z2:(h1.push { cls:=.type "list_iterator",data:=.fields #[.ref (s.heap.objs.size + 1),.int 0 0] }).objs.size=h1.objs.size + 1:=Heap.size_push ..
 have le1:s.heap.objs.size≤h1.objs.size:=by rw [z1];exact Nat.le_trans (Nat.le_succ _) (Nat.le_succ _)
 have ltI:∀ b o,s.heap.get? b=some o→b≠h1.objs.size:=fun b o g=>Nat.ne_of_lt (Nat.lt_of_lt_of_le (Heap.lt_size g) le1)
 generalize hh2:h1.push { cls:=.type "list_iterator",data:=.fields #[.ref (s.heap.objs.size + 1),.int 0 0] }=h2 at k2 z2
 have it2:h2.IsListIter h1.objs.size (s.heap.objs.size + 1) 0:=by rw [← hh2];exact⟨_,Heap.get?_push_size _ rfl,rfl,rfl⟩
 have g2:h2.get? (s.heap.objs.size + 1)=some ⟨.type "list",none,.seq xs.toArray 0,#[]⟩:=by rw [← hh2];exact Heap.get?_push_of_some _ g1
 show wpAny (model prog w) A (newList []) _ E { s with heap:=h2,toks:=s.toks + 1 }
 refine wpAny_newObj_type (wpAny_newFunctionEnv (fun z hz=>(c2 z hz).1.2) (by intro y hy;simp at hy) (fun h4 hns hsb=>?_) c1)
 generalize hh3:h2.push { cls:=.type "list",data:=.seq ([]:List Value).toArray }=h3 at hns hsb
 have z3:h3.objs.size=h2.objs.size + 1:=by rw [← hh3];exact Heap.size_push ..
 have g3:h3.get? h2.objs.size=some ⟨.type "list",none,.seq #[] 0,#[]⟩:=by rw [← hh3];exact Heap.get?_push_size _ rfl
 have k3:∀ b o,h2.get? b=some o→h3.get? b=some o:=fun b o g=>by rw [← hh3];exact Heap.get?_push_of_some _ g
 have k4:∀ b o,h3.get? b=some o→h4.get? b=some o:=fun b o g=>(hsb.2 b (Nat.ne_of_lt (Heap.lt_size g))).trans (Heap.get?_push_of_some _ g)
 have k24:∀ b o,h2.get? b=some o→h4.get? b=some o:=fun b o g=>k4 b o (k3 b o g)
 have neDC:h2.objs.size≠h3.objs.size:=by rw [z3];exact Nat.ne_of_lt (Nat.lt_succ_self _)
 have W:=walksL (A:=A) (w:=w) (γ:=γ) hC hk h1.objs.size (s.heap.objs.size + 1) (by rw [z1];exact Nat.ne_of_lt (Nat.lt_succ_self _)) (fr _ le1) xs.toArray
 have fp:∀ b∈h1.objs.size :: (s.heap.objs.size + 1) :: C,b < h2.objs.size:=fun b hb=>by
  rw [z2]
  rcases List.mem_cons.mp hb with rfl | hb
  ·exact Nat.lt_succ_self _
  rcases List.mem_cons.mp hb with rfl | hb
  ·rw [z1];exact Nat.lt_succ_of_lt (Nat.lt_succ_self _)
  ·exact Nat.lt_succ_of_lt (Nat.lt_of_lt_of_le (hC b hb).2 le1)
 have st0:h4.IsListIter h1.objs.size (s.heap.objs.size + 1) 0∧h4.IsList (s.heap.objs.size + 1) xs.toArray∧∀ b∈C,∀ o,s.heap.get? b=some o→h4.get? b=some o :=
  ⟨it2.at fun o e=>k24 _ o e,⟨_,k24 _ _ g2,rfl,0,rfl⟩,fun b hb o g=>k24 b o (k2 b o g)⟩
 have lt2:∀ b o,s.heap.get? b=some o→b < h2.objs.size:=fun b o g=>Heap.lt_size (k2 b o g)
 have ne3:∀ b o,s.heap.get? b=some o→b≠h3.objs.size:=fun b o g=>Nat.ne_of_lt (by rw [z3];exact Nat.lt_succ_of_lt (lt2 b o g))
 have lC:env.locals≠h3.objs.size:=by obtain⟨o,_,_,g,_⟩:=ns;exact ne3 _ _ g
 have lD:env.locals≠h2.objs.size:=by obtain⟨o,_,_,g,_⟩:=ns;exact Nat.ne_of_lt (lt2 _ _ g)
 have lI:env.locals≠h1.objs.size:=by obtain⟨o,_,_,g,_⟩:=ns;exact ltI _ _ g
 have loop:∀ {R:Result→Shared→Prop} {tk0:Tok},(∀ h' tk m' ys n,h'.Ns h3.objs.size m'→h'.get? h2.objs.size=some ⟨.type "list",none,.seq ys n,#[]⟩→csOk ys→(∀ b o,s.heap.get? b=some o→h'.get? b=some o)→R (.ok .next) { s with heap:=h',toks:=tk }) →
   codeAny (model prog w) A (.compLoop (.ListComp (.BinOp (.Call (.Name "abs" p1) [.Name "cell" p2] [] p3) .Mod (.BinOp (.Constant (.int 10) i1 p4) .Pow (.Constant (.int 24) i2 p5) p6) p7) [⟨.Name "cell" p8,.Subscript (.Name "script" p9) (.Slice none (some (.Constant (.int 10) i3 q1)) none q2) q3,[],0⟩] scope pos) 0 (.ref h1.objs.size) (.ref h2.objs.size) (compEnv scope h3.objs.size env)) R { s with heap:=h4,toks:=tk0 }:=fun {R} {tk0} hR=>by
  refine codeAny_compLoop_walk (cenv:=compEnv scope h3.objs.size env) W (fun _=>true) (fun v y=>∃ z t t',v=.int z t∧y=.int (Int.fmod (if z < 0 then -z else z) (10 ^ 24)) t') c3 (by simp [compEnv,c1]) neDC (fun h=>absurd (fp _ h) (Nat.lt_irrefl _)) (fun h=>by
    have:=fp _ h
    have this:h3.objs.size < h2.objs.size:=this
    rw [z3] at this
    exact absurd this (Nat.not_lt.mpr (Nat.le_succ _))) st0 ⟨_,k4 _ _ g3⟩ hns (fun i v s3 m3 hP hn hm hk3 ht=>wpAny_pure ⟨rfl,_,_,rfl,fun _ _ g=>g⟩) (fun i v s3 m3 hP _ hn hm hk3 ht=>?_) (fun h' tk m' ys vs hn hl hpl hlen hP hF hk3=>?_) (Nat.le_trans (by simpa using lx) (by decide))
  ·obtain⟨z,t,rfl⟩:=ix v (by have:=Array.mem_of_getElem? hP;simpa using this)
   have esC:EnvS (compEnv scope h3.objs.size env):=⟨c1,es.glob,es.blt,es.frame⟩
   have fb:=f_blts w.params
   simp only [Bool.and_eq_true,beq_iff_eq] at fb
   refine wpAny_BinOp (blt_call esC c4 nb.2.2.1 fb.1.1 (fun b o g=>hk3 b o (ne3 b o (st b o g)) (fun hm=>ltI b o (st b o g) (List.mem_singleton.mp hm)) (Nat.ne_of_lt (lt2 b o (st b o g))) (k24 b o (k2 b o (st b o g)))) (fun _=>rfl) (name_ev esC nb.2.1 c3 hn hm (call_abs_int fun u tk=>?_)))
   refine wpAny_BinOp (wpAny_Constant_int (wpAny_Constant_int ?_))
   refine PySem.AutoIntOps.pow_4 (by decide) (by decide) (by decide) (by decide) (by decide +kernel) ?_
   exact PyProof.Rows.mod_int' (by decide +kernel) ⟨⟨z,t,_,rfl,rfl⟩,_,_,rfl,fun _ _ g=>g⟩
  ·obtain⟨n,gD⟩:=hpl
   refine hR h' tk m' ys n hn gD ⟨?_,fun y hy=>?_⟩ fun b o g=>hk3 b o (ne3 b o g) (fun hm=>ltI b o g (List.mem_singleton.mp hm)) (Nat.ne_of_lt (lt2 b o g)) (k24 b o (k2 b o g))
   ·have e1:=hF.length
    have e2:=List.length_filter_le (fun _:Value=>true) vs
    have e3:xs.toArray.size=xs.length:=by simp
    have e4:ys.toList.length=ys.size:=by simp
    omega
   ·obtain⟨v,_,z,t,t',_,rfl⟩:=pair_mem hF y (Array.mem_toList_iff.mpr hy)
    have:=fmod_lt (a:=if z < 0 then -z else z) (b:=10 ^ 24) (by decide +kernel)
    exact⟨_,_,rfl,this.1,this.2⟩
 have fin:∀ h' tk m' ys n,h'.Ns h3.objs.size m'→h'.get? h2.objs.size=some ⟨.type "list",none,.seq ys n,#[]⟩→csOk ys→(∀ b o,s.heap.get? b=some o→h'.get? b=some o) →
   wpAny (model prog w) A (assign (.Name "cells_own" q4) env (.ref h2.objs.size)) (fun _ s''=>∃ m,s''.heap.Ns h3.objs.size m∧∀ h'',Heap.SameBut h3.objs.size s''.heap h''→Q .next { s'' with heap:=h'' }) E { s with heap:=h',toks:=tk }:=fun h' tk m' ys n hn gD hc hk5=>by
  refine wpAny_assign_Name (wpAny_storeName_local k1 (let ⟨o,es',ep,g,r⟩:=ns;⟨o,es',ep,hk5 _ _ g,r⟩) (fun h5 hn5 hs5=>?_) (by rw [es.kind];rfl))
  refine ⟨m',hn.sameBut hs5 lC.symm,fun h6 hs6=>?_⟩
  refine q _ h6 _ ys n (Nat.le_trans le1 (by rw [z2];exact Nat.le_succ _)) (((hs6.2 _ neDC).trans (hs5.2 _ lD.symm)).trans gD) hc (hn5.sameBut hs6 lC) fun b o nl g=>((hs6.2 _ (ne3 b o g)).trans (hs5.2 _ nl)).trans (hk5 b o g)
 exact codeAny_compStart_list (loop fin) (W.self 0 _ _ _ st0 (loop fin))
end
end Mine
end
section
open PySem renaming Expr→PX,Str→PS
open PySem PySem.W PySem.Calls PyProof.Rows PySem.SeqAt
namespace Mine
theorem runs_size{M:Model}{Γ:Ctx}{p:Pos}{t:Sem Fin}{fs:List Frame}{s s':Shared}{e:End}(h:Runs M Γ p t fs s e s'):s.heap.objs.size≤s'.heap.objs.size:=by
 induction h <;> (try simp only [Shared.setGen,Heap.size_push,Heap.size_update] at *) <;> first | omega | exact Nat.le_refl _ | skip
theorem wakes_size{M:Model}{Γ:Ctx}{p:Pos}{g:Nat}{r:Resume}{s s':Shared}{res:GenResult}(h:Wakes M Γ p g r s res s'):s.heap.objs.size≤s'.heap.objs.size:=by
 unfold Wakes at h
 split at h
 ·exact h.elim
 ·split at h
  ·obtain⟨e1,s1,hr,_,_,rfl⟩:=h;exact (runs_size hr:(s.setGen g .running).heap.objs.size≤s1.heap.objs.size)
  ·rw [h.2];exact Nat.le_refl _
  ·rw [h.2];exact Nat.le_refl _
 ·obtain⟨e1,s1,hr,_,_,rfl⟩:=h;exact (runs_size hr:(s.setGen g .running).heap.objs.size≤s1.heap.objs.size)
 ·rw [h.2];exact Nat.le_refl _
 ·rw [h.2];exact Nat.le_refl _
theorem wp_size{α:Type}(M:Model)(Γ:Ctx)(n:Nat)(t:Sem α):∀ (Q:α→Pos→Shared→Prop) (E:Value→Pos→Shared→Prop) (p:Pos) (s:Shared),n≤s.heap.objs.size→Sem.wp M Γ t Q E p s →
  Sem.wp M Γ t (fun a p' s'=>n≤s'.heap.objs.size∧Q a p' s') (fun e p' s'=>n≤s'.heap.objs.size∧E e p' s') p s:=by
 induction t with
 | pure _ | raise _=>exact fun Q E p s hn h=>⟨hn,h⟩
 | unsupported _ | finish _ | register _ _ | yield _ _ _ _ | fork _ _ | await _ _ _ _ _=>exact fun Q E p s _ h=>h
 | rule _ k ih | point _ k ih=>exact fun Q E p s hn h=>ih () Q E p s hn h
 | «at» p' k ih=>exact fun Q E p s hn h=>ih () Q E p' s hn h
 | load a _ k ih=>exact fun Q E p s hn ⟨o,ho,h⟩=>⟨o,ho,ih o Q E p s hn h⟩
 | update a _ f k ih=>exact fun Q E p s hn h=>⟨h.1,ih () Q E p _ (by show n≤(s.heap.update _ _).objs.size;rw [Heap.size_update];exact hn) h.2⟩
 | loadIfAlive a k ih=>exact fun Q E p s hn h=>ih _ Q E p s hn h
 | alloc o k ih=>exact fun Q E p s hn h=>ih _ Q E p _ (by show n≤(s.heap.push _).objs.size;rw [Heap.size_push];exact Nat.le_succ_of_le hn) h
 | fresh k ih | ask k ih | os q _ k ih | handled own k ih | newGen c k ih | stack k ih | thread k ih=>exact fun Q E p s hn h=>ih _ Q E p _ hn h
 | choose src m k ih=>exact fun Q E p s hn h=>⟨h.1,ih _ Q E p _ hn h.2⟩
 | call c hd _ _ k ih=>exact fun Q E p s hn ⟨r,s',hr,h⟩=>⟨r,s',hr,ih r Q E p s' (Nat.le_trans hn (runs_size hr)) h⟩
 | genState g k ih=>exact fun Q E p s hn ⟨st,hs,h⟩=>⟨st,hs,ih _ Q E p s hn h⟩
 | resume g r _ k ih=>exact fun Q E p s hn ⟨res,s',hw,h⟩=>⟨res,s',hw,ih res Q E p s' (Nat.le_trans hn (wakes_size hw)) h⟩
theorem wpAny_grow{α:Type}{M:Model}{A:Around}{s:Shared}{t:Sem α}{Q:α→Shared→Prop}{E:Value→Shared→Prop}(h:wpAny M A t (fun a s'=>s.heap.objs.size≤s'.heap.objs.size→s.toks≤s'.toks→Q a s') E s):wpAny M A t Q E s:=by
 have h1:wpAny M A t (fun a s'=>s.heap.objs.size≤s'.heap.objs.size∧(s.heap.objs.size≤s'.heap.objs.size→s.toks≤s'.toks→Q a s')) (fun e s'=>s.heap.objs.size≤s'.heap.objs.size∧E e s') s:=fun Γ p hΓ=>wp_size M Γ _ t _ _ p s (Nat.le_refl _) (h Γ p hΓ)
 exact wpAny_mono (wpAny_toks_of (Nat.le_refl _) h1) (fun _ _ z=>z.2.2 z.2.1 z.1) fun _ _ z=>z.2.2
end Mine
end
section
open PySem renaming Expr→PX,Str→PS
open PySem PySem.W PySem.Spec PySem.Calls PyProof.Rows PySem.SeqAt
namespace Mine
section
variable{w:World}{A:Around}{env:Env}{s:Shared}{hd:Bool}{γ:Gh}{m:PS→Option Value}
theorem sum_ok{D:Addr}{ys:Array Value}{n:Nat}(hh:HdOk A hd γ s.heap)(fr:∀ b,s.heap.objs.size≤b→γ.own b≠.exn)(g:s.heap.get? D=some ⟨.type "list",none,.seq ys n,#[]⟩)(hi:∀ v∈ys,∃ z t,v=.int z t){Q:Value→Shared→Prop}{E:Value→Shared→Prop}
  (q:∀ z t h' tk,(∀ b o,s.heap.get? b=some o→h'.get? b=some o)→Q (.int z t) { s with heap:=h',toks:=tk }):wpAny (model prog w) A (PySem.call (.builtin "sum") [.ref D]) Q E s:=by
 obtain⟨C,hC,hk⟩:=hh.chain
 refine call_sum_walkG (wpAny_pyIter_list ⟨_,g,rfl,n,rfl⟩ ?_)
 have k2:∀ b o,s.heap.get? b=some o→(s.heap.push { cls:=.type "list_iterator",data:=.fields #[.ref D,.int 0 0] }).get? b=some o:=fun b o g=>Heap.get?_push_of_some _ g
 have z2:(s.heap.push { cls:=.type "list_iterator",data:=.fields #[.ref D,.int 0 0] }).objs.size=s.heap.objs.size + 1:=Heap.size_push ..
 have ne:D≠s.heap.objs.size:=Nat.ne_of_lt (Heap.lt_size g)
 refine ⟨_,_,_,_,_,_,fun i=>(match ys[i]? with | some (.int z _)=>z | _=>0),rfl,walksL (A:=A.in1) (γ:=γ) (hd:=hd) hC (fun h' z=>(hk h' z).in1) s.heap.objs.size D ne (fr _ (Nat.le_refl _)) ys,⟨⟨_,Heap.get?_push_size _ rfl,rfl,rfl⟩,⟨_,k2 _ _ g,rfl,n,rfl⟩,fun b _ o g=>k2 b o g⟩,fun b hb=>?_,fun i v hv=>?_,fun h' tk t' hk'=>q _ _ _ _ fun b o g=>hk' b o (fun hm=>absurd (List.mem_singleton.mp hm) (Nat.ne_of_lt (Heap.lt_size g))) (k2 b o g)⟩
 ·show b < (s.heap.push _).objs.size
  rw [z2]
  rcases List.mem_cons.mp hb with rfl | hb
  ·exact Nat.lt_succ_self _
  rcases List.mem_cons.mp hb with rfl | hb
  ·exact Nat.lt_succ_of_lt (Heap.lt_size g)
  ·exact Nat.lt_succ_of_lt (hC b hb).2
 ·obtain⟨z,t,rfl⟩:=hi v (Array.mem_of_getElem? hv)
  exact⟨t,by dsimp only;rw [hv]⟩
theorem deck_ret{p1 p2 p3 p4 p5 p6 p7 p8 p9 q1 q2 q3 q4 q5 q6:Pos}{i1 i2:Nat}(es:EnvS env)(k1:env.kindOf "cells_own" = some .local)(k2:env.kindOf "script" = some .local)(k3:env.kindOf "sum" = some .globalImplicit)(k4:env.kindOf "len" = some .globalImplicit)(hh:HdOk A hd γ s.heap)(fr:∀ b,s.heap.objs.size≤b→γ.own b≠.exn)(st:(KF w.params).In s.heap)
  (ns:s.heap.Ns env.locals m) {a D:Addr} {ws ys:Array Value} {na n:Nat} (m1:m "script" = some (.ref a)) (m2:m "cells_own" = some (.ref D)) (ga:s.heap.get? a=some ⟨.type "list",none,.seq ws na,#[]⟩) (gD:s.heap.get? D=some ⟨.type "list",none,.seq ys n,#[]⟩) (hw:ws.size≤63) (hi:∀ v∈ys,∃ z t,v=.int z t) {Q:Flow→Shared→Prop} {E:Value→Shared→Prop}
  (q:∀ b e z t h' tk,s.heap.objs.size≤b→s.heap.objs.size≤e→b≠e→(∀ b o,s.heap.get? b=some o→h'.get? b=some o)→h'.get? b=some ⟨.type "list",none,.seq #[.ref D,.ref e] 0,#[]⟩→h'.get? e=some ⟨.type "list",none,.seq #[.int z t] 0,#[]⟩→seedOk z→Q (.ret (.ref b)) { s with heap:=h',toks:=tk }) :
  wpAny (model prog w) A (exec (.Return (some (.List [.Name "cells_own" p1,.List [.BinOp (.BinOp (.Constant (.int 37) i1 p2) .Add (.Call (.Name "len" p3) [.Name "script" p4] [] p5) p6) .Add (.BinOp (.Call (.Name "sum" p7) [.Name "cells_own" p8] [] p9) .Mod (.Constant (.int 1000003) i2 q1) q2) q3] q4] q5)) q6) env) Q E s:=by
 have nb:=nb_more
 have fb:=f_blts w.params
 simp only [Bool.and_eq_true,beq_iff_eq] at fb
 refine wpAny_Return_some (wpAny_List (spliced_more (name_ev es nb_cells k1 ns m2 (spliced_more (wpAny_List (spliced_more ?_))))))
 refine wpAny_BinOp (wpAny_BinOp (wpAny_Constant_int (blt_call es k4 nb.2.2.2.2 fb.2 st (fun _=>rfl) (name_ev es nb.1 k2 (by exact ns) m1 (call_len_list (by exact⟨_,ga,rfl,na,rfl⟩) (by omega) (add_int ?_))))))
 refine wpAny_BinOp (blt_call es k3 nb.2.2.2.1 fb.1.2 (by exact st) (fun _=>rfl) (name_ev es nb_cells k1 (by exact ns) m2 ?_))
 refine wpAny_grow (sum_ok (γ:=γ) (hd:=hd) (by exact hh) (by exact fr) (by exact gD) hi fun z t h1 tk k1' le1 _=>?_)
 have le1:s.heap.objs.size≤h1.objs.size:=le1
 refine wpAny_Constant_int (PyProof.Rows.mod_int' (by decide) (add_int (spliced_none ⟨Nat.le_trans (m:=2) (Nat.le_of_ble_eq_true rfl) (by decide),spliced_none ⟨Nat.le_trans (m:=2) (Nat.le_of_ble_eq_true rfl) (by decide),?_⟩⟩)))
 have b:=fmod_lt (a:=z) (b:=1000003) (by decide)
 have ze:∀ {t:Tok},(h1.push { cls:=.type "list",data:=.seq [Value.int (37 + ws.size + z.fmod 1000003) t].toArray }).objs.size=h1.objs.size + 1:=Heap.size_push ..
 refine q _ h1.objs.size _ _ _ _ ?_ le1 ?_ (fun b o g=>Heap.get?_push_of_some _ (Heap.get?_push_of_some _ (k1' b o g))) (Heap.get?_push_size _ rfl) (Heap.get?_push_of_some _ (Heap.get?_push_size _ rfl)) ⟨by omega,?_⟩
 ·show _≤(h1.push _).objs.size
  rw [Heap.size_push];exact Nat.le_succ_of_le le1
 ·show (h1.push _).objs.size≠_
  rw [Heap.size_push];exact Nat.ne_of_gt (Nat.lt_succ_self _)
 ·have e:(10:Int) ^ 25=10000000000000000000000000:=by decide +kernel
  rw [e];omega
end
section
variable{w:World}{A:Around}{env:Env}{s s0:Shared}{hd:Bool}{γ:Gh}{m m':PS→Option Value}{H H':HT}{n N:Nat}{k kx:KV}
theorem deck_rel{a c e:Addr}{cs:Array Value}{z:Int}{t:Tok}{n1 n2 n3:Nat}{h':Heap}{tk:Tok}(R:Rel ZZ w γ H n s0)(hH:∀ j,H'.get j=if j=n then .deck else H.get j)(ol:γ.own env.locals=.env)(keep:∀ b o,b≠env.locals→s0.heap.get? b=some o→h'.get? b=some o)
  (hz:s0.heap.objs.size≤h'.objs.size) (la:s0.heap.objs.size≤a) (lc:s0.heap.objs.size≤c) (le:s0.heap.objs.size≤e) (ac:a≠c) (ae:a≠e) (ce:c≠e) (ga:h'.get? a=some ⟨.type "list",none,.seq #[.ref c,.ref e] n1,#[]⟩) (gc:h'.get? c=some ⟨.type "list",none,.seq cs n2,#[]⟩) (ge:h'.get? e=some ⟨.type "list",none,.seq #[.int z t] n3,#[]⟩) (hc:csOk cs) (hs:seedOk z) (ht:s0.toks≤tk) :
  ∃ γ':Gh,γ'.own a=.obj n 0∧Rel ZZ w γ' H' (n + 1) { s0 with heap:=h',toks:=tk }∧Kp (Xs env) γ s0.heap γ' h':=by
 have old:∀ {b},b < s0.heap.objs.size→b≠a∧b≠c∧b≠e:=fun q=>⟨fun z=>absurd q (z ▸ Nat.not_lt.mpr la),fun z=>absurd q (z ▸ Nat.not_lt.mpr lc),fun z=>absurd q (z ▸ Nat.not_lt.mpr le)⟩
 obtain⟨f,hf⟩:∃ f:Addr→Ow,f=fun b=>if b=a then .obj n 0 else if b=c then .obj n 1 else if b=e then .obj n 2 else γ.own b:=⟨_,rfl⟩
 have f1:f a=.obj n 0:=by rw [hf];exact if_pos rfl
 have f2:f c=.obj n 1:=by rw [hf];show (if c=a then _ else _)=_;rw [if_neg ac.symm,if_pos rfl]
 have f3:f e=.obj n 2:=by rw [hf];show (if e=a then _ else _)=_;rw [if_neg ae.symm,if_neg ce.symm,if_pos rfl]
 have f0:∀ {b},b≠a→b≠c→b≠e→f b=γ.own b:=fun p q r=>by rw [hf];show (if _=a then _ else _)=_;rw [if_neg p,if_neg q,if_neg r]
 have fo:∀ {b},b < s0.heap.objs.size→f b=γ.own b:=fun q=>f0 (old q).1 (old q).2.1 (old q).2.2
 have k:∀ {b o},s0.heap.get? b=some o→γ.own b≠.env→h'.get? b=some o:=fun g q=>keep _ _ (fun z=>q (z ▸ ol)) g
 have K:Kp (Xs env) γ s0.heap { γ with own:=f } h':=⟨hz,fun b q=>fo q,fun b o g f=>k g (by rw [f];exact Ow.noConfusion),fun b o g _ nx=>⟨o.slots,keep b o (fun z=>nx (.inl z)) g⟩,fun b o g f _=>k g (by rw [f];exact Ow.noConfusion),
  fun b o fs g f d=>.same (k g (by rw [f];exact Ow.noConfusion)) d (TbOk.keep (fun b o g f=>k g (by rw [f];exact Ow.noConfusion)) (fun b q=>fo q)),fun _ _ e=>⟨e,rfl⟩,fun _ _ e=>e,fun _ _=>rfl,rfl,fun _ e=>e⟩
 have gone:∀ b p,γ.own b≠.obj n p:=fun b p q=>by
  have:=R.obj n
  rw [(R.fresh n (Nat.le_refl n)).1] at this
  exact this b p q
 have sp:∀ b,(b=a∨b=c∨b=e)∨f b=γ.own b:=fun b=>by
  by_cases h1:b=a
  ·exact .inl (.inl h1)
  by_cases h2:b=c
  ·exact .inl (.inr (.inl h2))
  by_cases h3:b=e
  ·exact .inl (.inr (.inr h3))
  ·exact .inr (f0 h1 h2 h3)
 have new:∀ b,(b=a∨b=c∨b=e)→γ.own b=.free∧b < h'.objs.size∧∃ p,f b=.obj n p:=fun b q=>by
  rcases q with rfl | rfl | rfl
  ·exact⟨R.freshFree la,Heap.lt_size ga,_,f1⟩
  ·exact⟨R.freshFree lc,Heap.lt_size gc,_,f2⟩
  ·exact⟨R.freshFree le,Heap.lt_size ge,_,f3⟩
 refine ⟨{ γ with own:=f },f1,R.upd K ⟨rfl,rfl⟩ n (fun b i p _ q=>?_) (fun b i p ne=>?_) ?_ (fun i ne=>by rw [hH,if_neg ne]) (fun b q=>?_) (Nat.le_succ n) (Nat.lt_succ_self n) (fun i q=>(R.fresh i (Nat.le_of_succ_le q)).2) (fun i q=>?_) id rfl ht,K⟩
 ·obtain⟨o,g⟩:=R.there q
  rw [g];exact k g (by rw [q];exact Ow.noConfusion)
 ·show f b=_↔_
  rcases sp b with q | q
  ·obtain⟨x1,_,p',x2⟩:=new b q
   rw [x1,x2]
   exact⟨fun z=>by cases z;exact absurd rfl ne,fun z=>by cases z⟩
  ·rw [q]
 ·rw [hH,if_pos rfl]
  refine ⟨a,c,e,⟨f1,f2,f3,fun b p q=>?_⟩,n1,n2,n3,cs,z,t,ga,gc,ge,hs.1,hs.2,hc.1,hc.2⟩
  rcases sp b with z | z
  ·exact z
  ·exact absurd (z.symm.trans q) (gone b p)
 ·rcases sp b with z | z
  ·exact (new b z).2.1
  ·exact Nat.lt_of_lt_of_le (R.bnd b (by rw [← z];exact q)) hz
 ·have:=R.obi i q
  rw [hH]
  by_cases z:i=n
  ·rw [z,(R.fresh n (Nat.le_refl n)).1] at this;cases this
  ·rw [if_neg z];exact this
theorem nm_sc:nmS 256= "script" := by decide +kernel
theorem ne_sc:("script" : PS)≠ "cells_own" := by decide +kernel
theorem prim_deck{vs:VL}{rvs:List Value}(a1:A.depth + 1 + 3 * N≤690)(hh:HdOk A hd γ s.heap)(R:Rel ZZ w γ H n s)(vr:VRs ZZ γ s.heap vs rvs)(q:prim204 vs H n k=true):codeAny (model prog w) A (.call (.ref (ZZ.fnA 204)) ⟨rvs,[]⟩) (CallR ZZ w γ s k kx) s:=by
 obtain⟨u,rv,rfl,rfl,v1,q⟩:=as1_ok q vr
 obtain⟨hs,q⟩:=brecT q
 obtain rfl:=isScr_ok hs
 have v0:=v1
 obtain⟨a,ws,na,rfl,g0,f0,w0,i0⟩:=v1
 obtain⟨H',q,hH⟩:=newO_spec q
 have B:PB ZZ γ s.heap (.cons 256 (.a .scr) .nil) (([256].map nmS).zip [.ref a]):=.cons (by decide +kernel) v0 rfl .nil
 refine call_prim (pf_all w).2.1 (by show A.depth < 1000;omega) R B rfl fun env γ1 s1 Nf=>?_
 obtain⟨mm,hns,hol,_,hl⟩:=Nf.en
 obtain⟨k1,k2,k3,k4⟩:=deck_kind Nf.sc
 obtain⟨rv,m1,v1⟩:∃ rv,mm "script" = some rv∧VR ZZ γ1 s1.heap (.a .scr) rv:=by
  rcases (hl 256 (.a .scr) rfl).2 with ⟨_,rv,b,c⟩ | ⟨b,_⟩
  ·rw [nm_sc] at b;exact⟨rv,b,c⟩
  ·rw [nm_sc] at b;rcases b with b | b <;> (rw [k2] at b;cases b)
 obtain⟨_,_,_,rfl,g1,f1,w1,i1⟩:=v1
 have hh1:HdOk (A.deeper env) hd γ1 s1.heap:=⟨hh.1,(hh.mono Nf.K).2⟩
 have fr:∀ b,s1.heap.objs.size≤b→γ1.own b≠.exn:=fun b lb=>by rw [Nf.R.freshFree lb];exact Ow.noConfusion
 have run:∀ {body:List Stmt},body=MH.fnBody (MH.stm 137)→wpAny (model prog w) (A.deeper env) (execs body env) (fun fl s2=>∃ v,fl=.ret v∧PostV ZZ w NX γ s k v s2) (fun _ _=>False) s1:=fun hb=>by
  rw [hb]
  refine wpAny_execs_cons (wpAny_grow (deck_cells Nf.es k1 k2 (by rfl) hh1 fr Nf.R.st (fun env a b=>?_) hns m1 g1 w1 i1 fun D h2 tk ys nD lD gD hc hn2 keep2 z2 t2=>?_))
  ·show (do return (env.blockKind == .function && env.kindOf "cells_own" == some .local && _ == _ && _):Sem Bool)=pure true
   have:env.blockKind=.function:=by unfold Env.blockKind;rw [a];rfl
   rw [this,b]
   rfl
  ·have kl:∀ b o,s1.heap.get? b=some o→b≠env.locals→h2.get? b=some o:=fun b o g nl=>keep2 b o nl g
   have st2:(KF w.params).In h2:=fun b o g=>keep2 b o (fun z=>by have:=Nf.R.stf b o g;rw [z,hol] at this;cases this) (Nf.R.st b o g)
   have kA:∀ {b o},s1.heap.get? b=some o→γ1.own b≠.env→h2.get? b=some o:=fun g q=>keep2 _ _ (fun z=>q (z ▸ hol)) g
   refine wpAny_execs_cons (wpAny_grow (deck_ret (γ:=γ1) (hd:=hd) Nf.es k1 k2 k3 k4 ?_ (fun b lb=>fr b (Nat.le_trans z2 lb)) st2 hn2 (a:=_) (D:=D) (ws:=_) (ys:=ys) (na:=_) (n:=nD) ?_ ?_ (kA g1 (by rw [f1];exact Ow.noConfusion)) gD w1 (fun v hv=>let ⟨z,t,e,_⟩:=hc.2 v hv;⟨z,t,e⟩) fun b e z t h3 tk3 lb le nbe keep3 gb ge hs z3 t3=>?_))
   ·obtain⟨C,hC,hk⟩:=hh1.chain
    exact hk _ fun b hb o g=>kA g (by rw [(hC b hb).1];exact Ow.noConfusion)
   ·show (if _ then _ else _)=_
    rw [if_neg ne_sc];exact m1
   ·show (if _ then _ else _)=_
    rw [if_pos rfl]
   ·have lb':s1.heap.objs.size≤b:=Nat.le_trans z2 lb
    have le':s1.heap.objs.size≤e:=Nat.le_trans z2 le
    have ltD:=Heap.lt_size gD
    obtain⟨γ',o1,R',K'⟩:=deck_rel (env:=env) (h':=h3) (tk:=tk3) Nf.R hH hol (fun b o nl g=>keep3 b o (keep2 b o nl g)) (Nat.le_trans z2 z3) lb' lD le' (Nat.ne_of_gt (Nat.lt_of_lt_of_le ltD lb)) nbe (Nat.ne_of_lt (Nat.lt_of_lt_of_le ltD le)) gb (keep3 _ _ gD) ge hc hs (Nat.le_trans t2 t3)
    exact⟨_,rfl,_,H',n + 1,γ',q,R',Nf.nar K',.ref o1,Nf.F.trans ⟨rfl,rfl,rfl⟩⟩
 exact wpAny_mono (run rfl) (fun fl s2 z=>z) fun _ _ z=>z
end
section
variable{w:World}{A:Around}{s:Shared}
set_option tactic.hygienic true in
theorem call_real{i:Nat}{prms:List Nat}{body:List Stmt}{sc:Scope}(P:PF w i prms body sc)(hcell:(sc.names.all fun x=>x.2 != .cell)=true)(hroom:A.depth < recursionLimit)(st:(KF w.params).In s.heap)(lim:s.heap.NoLimit){rvs:List Value}(hl:rvs.length=prms.length){R:Result→Shared→Prop}
  (q:∀ env h1 tk,env.scope=sc→EnvS env→env.locals=s.heap.objs.size→h1.Ns env.locals (fun x=>((prms.map nmS).zip rvs).reverse.lookup x)→(∀ b o,s.heap.get? b=some o→h1.get? b=some o) →
   wpAny (model prog w) (A.deeper env) (execs body env) (fun f s2=>match f with | .ret v=>R (.ok (.ret v)) s2 | .next=>R (.ok (.ret .none)) s2 | _=>False) (fun _ _=>False) { s with heap:=h1,toks:=tk }):codeAny (model prog w) A (.call (.ref (ZZ.fnA i)) ⟨rvs,[]⟩) R s:=by
 obtain⟨o,fdat,e1,e2,e3,e4,a1,a2,a3,a4,a5,a6,a7,pp,pl,a9⟩:=P.of
 subst e4
 rw [List.all_eq_true] at hcell
 refine codeAny_call_function hroom (st _ _ e1) e2 a1 a2 e3 (codeRec_of st a7) ((BindsTo.of_eq (bind_plain (vals:=rvs) pp a9 (by rw [List.length_map];exact hl))) _ _ _ _ ?_)
 rw [a4,a5,a6]
 refine wpAny_newFunctionEnv (fun x hx=>by simpa using hcell x hx) (fun p hp=>?_) (fun h1 ns1 sb1=>?_) a3
 ·obtain⟨x,hx,he⟩:=List.mem_map.mp (mem_zip_fst hp)
  rw [← he]
  rcases (pl x hx).2 with z | z
  ·exact z
  ·exact absurd (hcell _ (lookup_mem z)) (by simp)
 have keep:∀ b o,s.heap.get? b=some o→h1.get? b=some o:=fun b o e=>(sb1.2 b (Nat.ne_of_lt (Heap.lt_size e))).trans (Heap.get?_push_of_some _ e)
 refine ⟨lim.keeps keep,codeAny_func ?_⟩
 refine wpAny_mono (q _ h1 _ rfl ⟨a3,rfl,rfl,⟨_,rfl⟩⟩ rfl ns1 keep) (fun f s2 z=>?_) fun _ _ z=>z.elim
 cases f <;> first | exact z | exact z.elim
end
theorem i_fn(P:Params):(fnOk P 193 ⟨0,[2,11],[],Yn⟩ && fnOk P 5 ⟨0,[2,10,11],[],Yn⟩ && makesIn (KF P) (ZZ.clA 2) && findIn (KF P) (.ref (ZZ.clA 2)) "__init__" == some (some (.ref (ZZ.fnA 5))) && typeIn (KF P) (.ref (ZZ.fnA 5)) == some (.type "function") &&
  findIn (KF P) (.ref (ZZ.clA 40)) "fresh" == some (some (.ref (ZZ.fnA 193))) && isFn (KF P) (.ref (ZZ.fnA 193)) && specialIn (KF P) (.ref (ZZ.fnA 193)) "__get__" == some (some (.builtin "function.__get__")) && takesIn (KF P) (.ref (ZZ.fnA 193)) == some false && !copiedNames.contains "fresh" &&
  globIn (KF P) "Symbol" == some (.ref (ZZ.clA 2)) && keepIn (KF P) (.ref (ZZ.fnA 193)) && keepIn (KF P) (.ref (ZZ.clA 2)))=true:=by kernel_rfl
theorem i_b(P:Params):[(fdAt P 193).map (·.body),(fdAt P 5).map (·.body)]=[some (.stmts (MH.fnBody (MH.subSt (MH.stm 133) 3))),some (.stmts (MH.fnBody (MH.subSt (MH.stm 7) 0)))]:=by kernel_rfl
theorem i_s(P:Params):[(fdAt P 193).map (·.scope),(fdAt P 5).map (·.scope)]=[some (MH.fnScope (MH.subSt (MH.stm 133) 3)),some (MH.fnScope (MH.subSt (MH.stm 7) 0))]:=by kernel_rfl
theorem nm_i:nmS 2= "self" ∧ nmS 10= "number" ∧ nmS 11= "name" ∧ nmS nName= "name" ∧ nmS nNumber= "number" ∧ nmS nRows= "rows" ∧ nmS nNames= "names" := by decide +kernel
theorem ne_i:("self" : PS)≠ "name" ∧ ("self" : PS)≠ "number" ∧ ("number" : PS)≠ "name" ∧ ("fresh" : PS)≠ "rows" ∧ ("fresh" : PS)≠ "names" ∧ ("self" : PS)≠ "found" ∧ ("name" : PS)≠ "found" := by decide +kernel
theorem nb_i:(("self" : PS) == ("__debug__" : PS))=false∧(("name" : PS) == ("__debug__" : PS))=false∧(("number" : PS) == ("__debug__" : PS))=false∧(("Symbol" : PS) == ("__debug__" : PS))=false:=by decide +kernel
structure InF(w:World):Prop where
 p193:PF w 193 [2,11] (MH.fnBody (MH.subSt (MH.stm 133) 3)) (MH.fnScope (MH.subSt (MH.stm 133) 3))
 p5:PF w 5 [2,10,11] (MH.fnBody (MH.subSt (MH.stm 7) 0)) (MH.fnScope (MH.subSt (MH.stm 7) 0))
 mak:makesIn (KF w.params) (ZZ.clA 2)=true
 ini:findIn (KF w.params) (.ref (ZZ.clA 2)) "__init__" = some (some (.ref (ZZ.fnA 5)))
 ty5:typeIn (KF w.params) (.ref (ZZ.fnA 5))=some (.type "function")
 fr:findIn (KF w.params) (.ref (ZZ.clA 40)) "fresh" = some (some (.ref (ZZ.fnA 193)))
 isf:isFn (KF w.params) (.ref (ZZ.fnA 193))=true
 gt:specialIn (KF w.params) (.ref (ZZ.fnA 193)) "__get__" = some (some (.builtin "function.__get__"))
 tk:takesIn (KF w.params) (.ref (ZZ.fnA 193))=some false
 cp:copiedNames.contains "fresh" = false
 gl:globIn (KF w.params) "Symbol" = some (.ref (ZZ.clA 2))
 k193:keepIn (KF w.params) (.ref (ZZ.fnA 193))=true
 k2:keepIn (KF w.params) (.ref (ZZ.clA 2))=true
theorem inF(w:World):InF w:=by
 have f:=i_fn w.params
 have b:=i_b w.params
 have s:=i_s w.params
 simp only [Bool.and_eq_true,beq_iff_eq,Bool.not_eq_true'] at f
 obtain⟨⟨⟨⟨⟨⟨⟨⟨⟨⟨⟨⟨f1,f2⟩,f3⟩,f4⟩,f5⟩,f6⟩,f7⟩,f8⟩,f9⟩,f10⟩,f11⟩,f12⟩,f13⟩:=f
 obtain⟨b1,b⟩:=List.cons.inj b
 obtain⟨b2,_⟩:=List.cons.inj b
 obtain⟨s1,s⟩:=List.cons.inj s
 obtain⟨s2,_⟩:=List.cons.inj s
 exact⟨pf_of (b:=none) (c:=none) f1 b1 s1,pf_of (b:=none) (c:=none) f2 b2 s2,f3,f4,f5,f6,f7,f8,f9,f10,f11,f12,f13⟩
noncomputable def initSc:Scope:=MH.fnScope (MH.subSt (MH.stm 7) 0)
theorem init_kinds:((["self","number","name"]:List PS).all (fun x=>initSc.names.lookup x == some .local))=true:=by kernel_rfl
theorem kinds_of{sc:Scope}{xs:List PS}{k:NameKind}(h:xs.all (fun x=>sc.names.lookup x == some k)=true){env:Env}(he:env.scope=sc){x:PS}(hx:x∈xs):env.kindOf x=some k:=by
 show env.scope.names.lookup x=_
 rw [he]
 exact eq_of_beq (List.all_eq_true.mp h x hx)
section
variable{w:World}{A:Around}{s:Shared}
set_option tactic.hygienic true in
theorem sym_store{env:Env}{m mm:PS→Option Value}{b d:Addr}{fld src:PS}{v:Value}{p1 p2 p3 p4:Pos}(es:EnvS env)(k1:env.kindOf "self" = some .local)(k2:env.kindOf src=some .local)(nb:(src == ("__debug__" : PS))=false)(st:(KF w.params).In s.heap)(ns:s.heap.Ns env.locals m)(m1:m "self" = some (.ref b))(m2:m src=some v)
  (g:s.heap.get? b=some ⟨.ref (ZZ.clA 2),some d,.plain,#[]⟩) (n:s.heap.Ns1 d mm) (hf:fld=nmS nName∨fld=nmS nNumber) (hm:∀ y,mm y≠none→y=nmS nName∨y=nmS nNumber) {Q:Flow→Shared→Prop} {E:Value→Shared→Prop}
  (q:∀ h',h'.Ns1 d (fun y=>if y=fld then some v else mm y)→Heap.SameBut d s.heap h'→Q .next { s with heap:=h',toks:=s.toks + 2 }) :
  wpAny (model prog w) A (exec (.Assign [.Attribute (.Name "self" p1) fld p2] (.Name src p3) p4) env) Q E s:=by
 have C:=(kc_ok w).facts (c:=2) (cd:=c2) rfl (by decide)
 have fs:=f_sym w.params
 rw [Bool.and_eq_true,beq_iff_eq,beq_iff_eq] at fs
 refine plainObj_wpAny_Assign_Attribute (name_ev es nb k2 ns m2 (name_ev es nb_i.1 k1 ns m1 ?_)) rfl
 exact nsStore (ns:=[nmS nName,nmS nNumber]) st g n C.set C.over C.dict (by rcases hf with rfl | rfl;exact fs.1;exact fs.2) (fun y hy=>by rcases hm y hy with rfl | rfl <;> simp) (by rcases hf with rfl | rfl <;> simp) (by simp) q
set_option tactic.hygienic true in
theorem sym_make(hroom:A.depth + 1 < recursionLimit)(st:(KF w.params).In s.heap)(lim:s.heap.NoLimit){v1 v2:Value}{R:Result→Shared→Prop}
  (q:∀ h' tk,(∀ b o,s.heap.get? b=some o→h'.get? b=some o)→h'.get? (s.heap.objs.size + 1)=some ⟨.ref (ZZ.clA 2),some s.heap.objs.size,.plain,#[]⟩→h'.Ns1 s.heap.objs.size (fun y=>if y=nmS nName then some v2 else if y=nmS nNumber then some v1 else none)→R (.ok (.ret (.ref (s.heap.objs.size + 1)))) { s with heap:=h',toks:=tk }) :
  codeAny (model prog w) A (.call (.ref (ZZ.clA 2)) ⟨[v1,v2],[]⟩) R s:=by
 have F:=inF w
 have C:=(kc_ok w).facts (c:=2) (cd:=c2) rfl (by decide)
 have fs:=f_sym w.params
 rw [Bool.and_eq_true,beq_iff_eq,beq_iff_eq] at fs
 obtain⟨h,g,d,t,os⟩:=s
 dsimp only at st lim q
 refine make_core (makes_of st F.mak) (looks_findIn st F.ini) (fun self=>bind_fn st self F.ty5) (.inl rfl) ?_
 obtain⟨z,g1,g2⟩:=instHeap h (ZZ.clA 2)
 have keep:∀ b o,h.get? b=some o→((h.push emptyDict).push (instObj (ZZ.clA 2) h.objs.size)).get? b=some o:=fun b o e=>Heap.get?_push_of_some _ (Heap.get?_push_of_some _ e)
 have n0:((h.push emptyDict).push (instObj (ZZ.clA 2) h.objs.size)).Ns1 h.objs.size fun _=>none:=Heap.Ns1.of_empty ⟨_,#[],0,g2,rfl,(fun e he=>absurd he (by simp)),fun y=>rfl⟩
 generalize (h.push emptyDict).push (instObj (ZZ.clA 2) h.objs.size)=h1 at z g1 g2 keep n0
 refine call_real (s:=⟨h1,g,d,t,os⟩) F.p5 (by kernel_rfl) hroom (fun b o e=>keep b o (st b o e)) (lim.keeps keep) rfl fun env h2 tk hsc es hel ns k2=>?_
 have nm:=nm_i
 have ne:=ne_i
 have kd:∀ {x:PS},x∈(["self","number","name"]:List PS)→env.kindOf x=some .local:=kinds_of init_kinds hsc
 have nss:∀ {hh:Heap},(∀ o,h2.get? env.locals=some o→hh.get? env.locals=some o)→hh.Ns env.locals (fun x=>((([2,10,11]:List Nat).map nmS).zip [.ref (h.objs.size + 1),v1,v2]).reverse.lookup x):=fun k=>let ⟨o,es',ep,g,r⟩:=ns;⟨o,es',ep,k o g,r⟩
 have m0:((([2,10,11]:List Nat).map nmS).zip [Value.ref (h.objs.size + 1),v1,v2]).reverse.lookup ("self" : PS)=some (.ref (h.objs.size + 1)):=by
  rw [List.map,List.map,List.map,List.map,nm.1,nm.2.1,nm.2.2.1]
  simp [List.lookup,beq_eq_false_iff_ne.mpr ne.1,beq_eq_false_iff_ne.mpr ne.2.1]
 have m1:((([2,10,11]:List Nat).map nmS).zip [Value.ref (h.objs.size + 1),v1,v2]).reverse.lookup ("number" : PS)=some v1:=by
  rw [List.map,List.map,List.map,List.map,nm.1,nm.2.1,nm.2.2.1]
  simp [List.lookup,beq_eq_false_iff_ne.mpr ne.2.2.1]
 have m2:((([2,10,11]:List Nat).map nmS).zip [Value.ref (h.objs.size + 1),v1,v2]).reverse.lookup ("name" : PS)=some v2:=by
  rw [List.map,List.map,List.map,List.map,nm.1,nm.2.1,nm.2.2.1]
  simp [List.lookup]
 have st2:(KF w.params).In h2:=fun b o e=>k2 b o (keep b o (st b o e))
 have gb:h2.get? (h.objs.size + 1)=some ⟨.ref (ZZ.clA 2),some h.objs.size,.plain,#[]⟩:=k2 _ _ g1
 have nd:h2.Ns1 h.objs.size fun _=>none:=n0.keeps k2
 have ld:env.locals≠h.objs.size:=by rw [hel];show h1.objs.size≠_;rw [z];omega
 have lb:h.objs.size + 1≠h.objs.size:=Nat.succ_ne_self _
 have run:∀ {body:List Stmt},body=MH.fnBody (MH.subSt (MH.stm 7) 0)→wpAny (model prog w) ((A.under (.builtin "type.__call__" ⟨[.ref (ZZ.clA 2),v1,v2],[]⟩)).deeper env) (execs body env) (fun f s2=>f=.next∧R (.ok (.ret (.ref (h.objs.size + 1)))) s2) (fun _ _=>False) ⟨h2,g,d,tk,os⟩:=fun hb=>by
  rw [hb]
  refine wpAny_execs_cons (sym_store es (kd (by simp)) (kd (by simp)) nb_i.2.2.1 st2 ns m0 m1 gb nd (.inr nm.2.2.2.2.1.symm) (fun y hy=>absurd rfl hy) fun h3 n3 s3=>?_)
  have k3:∀ b o,b≠h.objs.size→h2.get? b=some o→h3.get? b=some o:=fun b o ne g=>(s3.2 b ne).trans g
  have old:∀ b o,h.get? b=some o→b≠h.objs.size:=fun b o g=>Nat.ne_of_lt (Heap.lt_size g)
  refine wpAny_execs_cons (sym_store es (kd (by simp)) (kd (by simp)) nb_i.2.1 (fun b o e=>k3 b o (old b o (st b o e)) (st2 b o e)) (nss fun o g=>k3 _ o ld g) m0 m2 (k3 _ _ lb gb) n3 (.inl nm.2.2.2.1.symm) (fun y hy=>by
   by_cases e:y=nmS nNumber
   ·exact .inr e
   ·rw [nm.2.2.2.2.1] at e;rw [if_neg e] at hy;exact absurd rfl hy) fun h4 n4 s4=>?_)
  refine wpAny_execs_nil ⟨rfl,q h4 _ (fun b o e=>(s4.2 b (old b o e)).trans (k3 b o (old b o e) (k2 b o (keep b o e)))) ((s4.2 _ lb).trans (k3 _ _ lb gb)) ?_⟩
  rw [nm.2.2.2.1,nm.2.2.2.2.1]
  exact n4
 refine wpAny_mono (run rfl) (fun f s2 z=>?_) fun _ _ z=>z
 obtain⟨rfl,z⟩:=z
 exact⟨rfl,z⟩
end
noncomputable def freshSc:Scope:=MH.fnScope (MH.subSt (MH.stm 133) 3)
theorem fresh_kinds:((["self","name","found"]:List PS).all (fun x=>freshSc.names.lookup x == some .local))=true:=by kernel_rfl
theorem fresh_kinds2:((["Symbol","len"]:List PS).all (fun x=>freshSc.names.lookup x == some .globalImplicit))=true:=by kernel_rfl
theorem nb_f:(("found" : PS) == ("__debug__" : PS))=false∧(("len" : PS) == ("__debug__" : PS))=false:=by decide +kernel
structure OB(h:Heap)(a d lr ld:Addr)(m:PS→Option Value):Prop where
 g:h.get? a=some ⟨.ref (ZZ.clA 40),some d,.plain,#[]⟩
 ns:h.Ns1 d m
 mr:m (nmS nRows)=some (.ref lr)
 mn:m (nmS nNames)=some (.ref ld)
 on:∀ y v,m y=some v→y=nmS nRows∨y=nmS nNames
theorem OB.keep{h h':Heap}{a d lr ld:Addr}{m:PS→Option Value}(x:OB h a d lr ld m)(ka:∀ o,h.get? a=some o→h'.get? a=some o)(kd:∀ o,h.get? d=some o→h'.get? d=some o):OB h' a d lr ld m :=
 ⟨ka _ x.g,x.ns.at kd,x.mr,x.mn,x.on⟩
section
variable{w:World}{A:Around}{s:Shared}{env:Env}{v:Value}{a d lr ld:Addr}{m mm:PS→Option Value}{E Q:Value→Shared→Prop}
theorem ob_field(es:EnvS env)(k1:env.kindOf "self" = some .local)(st:(KF w.params).In s.heap)(ns:s.heap.Ns env.locals m)(m1:m "self" = some (.ref a))(O:OB s.heap a d lr ld mm){x:PS}{v:Value}(hx:mm x=some v)(hf:x=nmS nRows∨x=nmS nNames)(hv:handedIn v=true){p1 p2:Pos}
  (q:Q v { s with toks:=s.toks + 1 }):wpAny (model prog w) A (eval (.Attribute (.Name "self" p1) x p2) env) Q E s:=by
 have C:=(kc_ok w).facts (c:=40) (cd:=c40) rfl (by decide)
 refine Attribute_any_ (name_ev es nb_i.1 k1 ns m1 ?_) (attr_he rfl env)
 exact (val_of (w:=w) st O.g rfl O.ns.ns C.get C.dict (by rcases hf with rfl | rfl;exact (C.fld nRows (by decide +kernel)).1;exact (C.fld nNames (by decide +kernel)).1) hx hv).1 A Q E true q
set_option tactic.hygienic true in
theorem rows_append{p1 p2 ap p3 p q0:Pos}(es:EnvS env)(k1:env.kindOf "self" = some .local)(k2:env.kindOf "found" = some .local)(st:(KF w.params).In s.heap)(ns:s.heap.Ns env.locals m)(m1:m "self" = some (.ref a))(m2:m "found" = some v)(O:OB s.heap a d lr ld mm){rows:Array Value}{n:Nat}(gl:s.heap.get? lr=some ⟨.type "list",none,.seq rows n,#[]⟩)(hsz:rows.size≤1000)(hp:ap.endLine=p.line){Q:Flow→Shared→Prop}
  (q:∀ h' tk,Heap.SameBut lr s.heap h'→h'.get? lr=some ⟨.type "list",none,.seq (rows.push v) (n + 1),#[]⟩→Q .next { s with heap:=h',toks:=tk }) :
  wpAny (model prog w) A (exec (.Expr (.Call (.Attribute (.Attribute (.Name "self" p1) "rows" p2) "append" ap) [.Name "found" p3] [] p) q0) env) Q E s:=by
 have nm:=nm_i
 rw [exec_Expr env _ _ (inter_no env es.glob es.kind) rfl]
 refine wpAny_bind (wpAny_standAt (wpAny_bind ?_))
 obtain⟨pl,he⟩:=callM_he (e:=.Attribute (.Name "self" p1) "rows" p2) (x:= "append") (es:=[.Name "found" p3]) rfl (Nat.le_of_ble_eq_true rfl) hp (fun _ _=>rfl) env
 refine methodCall_KW (pl:=pl) (ob_field es k1 st ns m1 O (by rw [← nm.2.2.2.2.2.1];exact O.mr) (.inl nm.2.2.2.2.2.1.symm) rfl ?_) he
 refine getMethod_list_of (s:={ s with toks:=s.toks + 1 }) PySem.F.slot_list_append PySem.F.type_list_append ⟨_,gl,rfl,n,rfl⟩ ⟨_,gl,rfl⟩ ?_
 refine callWith_of (P:=fun h=>KeepJ w h (.builtin "list.append")) rfl (fun h x=>x) (evalArgs_spliced rfl ?_)
 refine spliced_more (name_ev es nb_f.1 k2 (by exact ns) m2 (spliced_none ⟨⟨.machine,.inr (.inl rfl),.now⟩,?_⟩))
 refine append_at (s:={ s with toks:=s.toks + 1 }) (hsz:=Nat.le_trans hsz (by decide)) gl fun h' hs g'=>wpAny_dropValue ?_
 exact q h' _ hs g'
theorem fresh_ok(hroom:A.depth + 3 < recursionLimit)(st:(KF w.params).In s.heap)(lim:s.heap.NoLimit)(O:OB s.heap a d lr ld mm){rows:Array Value}{n:Nat}(gl:s.heap.get? lr=some ⟨.type "list",none,.seq rows n,#[]⟩)(hsz:rows.size≤1000){v2:Value}{R:Result→Shared→Prop}
  (q:∀ h' tk b db t n',(∀ b o,b≠lr→s.heap.get? b=some o→h'.get? b=some o)→h'.get? lr=some ⟨.type "list",none,.seq (rows.push (.ref b)) n',#[]⟩→s.heap.objs.size≤b→s.heap.objs.size≤db→h'.get? b=some ⟨.ref (ZZ.clA 2),some db,.plain,#[]⟩ →
   h'.Ns1 db (fun y=>if y=nmS nName then some v2 else if y=nmS nNumber then some (.int rows.size t) else none)→R (.ok (.ret (.ref b))) { s with heap:=h',toks:=tk }) :
  codeAny (model prog w) A (.call (.ref (ZZ.fnA 193)) ⟨[.ref a,v2],[]⟩) R s:=by
 have F:=inF w
 have nm:=nm_i
 have ne:=ne_i
 refine call_real F.p193 (by kernel_rfl) (Nat.lt_of_le_of_lt (Nat.le_add_right _ _) hroom) st lim rfl fun env h1 tk hsc es hel ns k1=>?_
 have kd:∀ {x:PS},x∈(["self","name","found"]:List PS)→env.kindOf x=some .local:=kinds_of fresh_kinds hsc
 have kg:∀ {x:PS},x∈(["Symbol","len"]:List PS)→env.kindOf x=some .globalImplicit:=kinds_of fresh_kinds2 hsc
 have m0:((([2,11]:List Nat).map nmS).zip [Value.ref a,v2]).reverse.lookup ("self" : PS)=some (.ref a):=by
  rw [List.map,List.map,List.map,nm.1,nm.2.2.1]
  simp [List.lookup,beq_eq_false_iff_ne.mpr ne.1]
 have m2:((([2,11]:List Nat).map nmS).zip [Value.ref a,v2]).reverse.lookup ("name" : PS)=some v2:=by
  rw [List.map,List.map,List.map,nm.1,nm.2.2.1]
  simp [List.lookup]
 generalize hmm:(fun x=>((([2,11]:List Nat).map nmS).zip [Value.ref a,v2]).reverse.lookup x)=fm at ns
 have m0:fm "self" = some (.ref a):=by rw [← hmm];exact m0
 have m2:fm "name" = some v2:=by rw [← hmm];exact m2
 have st1:(KF w.params).In h1:=fun b o e=>k1 b o (st b o e)
 have fb:=f_blts w.params
 simp only [Bool.and_eq_true,beq_iff_eq] at fb
 have O1:OB h1 a d lr ld mm:=O.keep (k1 _) (k1 _)
 have run:∀ {body:List Stmt},body=MH.fnBody (MH.subSt (MH.stm 133) 3)→wpAny (model prog w) (A.deeper env) (execs body env) (fun f s2=>∃ v,f=.ret v∧R (.ok (.ret v)) s2) (fun _ _=>False) { s with heap:=h1,toks:=tk }:=fun hb=>by
  rw [hb]
  refine wpAny_execs_cons (wpAny_Assign_Name ?_ rfl)
  refine Call_ (wpAny_Name (loadName_global es.kind (kg (by simp)) (loadGlobal_ok (Z:=ZZ) (s:={ s with heap:=h1,toks:=tk }) st1 F.gl es.glob es.blt ?_)) nb_i.2.2.2) rfl
  refine callWith_of (P:=fun h=>KeepJ w h (.ref (ZZ.clA 2))) rfl (fun h x=>x) (evalArgs_spliced rfl ?_)
  refine spliced_more (blt_call es (kg (by simp)) nb_f.2 fb.2 (by exact st1) (fun _=>rfl) ?_)
  refine ob_field es (kd (by simp)) (by exact st1) (by exact ns) m0 O1 (by rw [← nm.2.2.2.2.2.1];exact O1.mr) (.inl nm.2.2.2.2.2.1.symm) rfl ?_
  refine call_len_list (s:={ s with heap:=h1,toks:=tk + 1 }) ⟨_,k1 _ _ gl,rfl,n,rfl⟩ (by omega) ?_
  refine spliced_more (name_ev es nb_i.2.1 (kd (by simp)) (by exact ns) m2 (spliced_none ⟨keeps_K F.k2 _ (by exact st1),wpAny_call (sym_make (by show A.depth + 1 + 1 < recursionLimit;omega) (by exact st1) (by exact lim.keeps k1) fun h2 tk2 k2 gb nb2=>?_)⟩))
  have k2':∀ b o,s.heap.get? b=some o→h2.get? b=some o:=fun b o g=>k2 b o (k1 b o g)
  have ns2:h2.Ns env.locals fm:=ns.keeps k2
  refine wpAny_storeName_local (s:={ s with heap:=h2,toks:=tk2 }) (kd (by simp)) ns2 (fun h3 ns3 sb3=>?_) (by rw [es.kind];rfl)
  have le1:s.heap.objs.size≤h1.objs.size:=by rw [← hel];exact Nat.le_of_lt ns.lt
  have lo:∀ {b o},s.heap.get? b=some o→b≠env.locals:=fun g=>by rw [hel];exact Nat.ne_of_lt (Heap.lt_size g)
  have k3:∀ b o,s.heap.get? b=some o→h3.get? b=some o:=fun b o g=>(sb3.2 b (lo g)).trans (k2' b o g)
  have hb1:h1.objs.size≠env.locals:=Nat.ne_of_gt ns.lt
  have hb2:h1.objs.size + 1≠env.locals:=Nat.ne_of_gt (Nat.lt_succ_of_lt ns.lt)
  refine wpAny_execs_cons (rows_append es (kd (by simp)) (kd (by simp)) (by exact fun b o e=>k3 b o (st b o e)) (by exact ns3) (by rw [if_neg ne.2.2.2.2.2.1];exact m0) (if_pos rfl) (O.keep (k3 _) (k3 _)) (k3 _ _ gl) hsz (by rfl) fun h4 tk4 sb4 g4=>?_)
  have nl:∀ {b o},h3.get? b=some o→b≠lr→h4.get? b=some o:=fun g ne=>(sb4.2 _ ne).trans g
  have ll:lr < s.heap.objs.size:=Heap.lt_size gl
  have hl1:env.locals≠lr:=by rw [hel];exact Nat.ne_of_gt ll
  have hl2:h1.objs.size≠lr:=Nat.ne_of_gt (Nat.lt_of_lt_of_le ll le1)
  have hl3:h1.objs.size + 1≠lr:=Nat.ne_of_gt (Nat.lt_succ_of_lt (Nat.lt_of_lt_of_le ll le1))
  have ns4:=ns3.sameBut sb4 hl1
  refine wpAny_execs_cons (wpAny_Return_some (name_ev es nb_f.1 (kd (by simp)) (by exact ns4) (if_pos rfl) ⟨_,rfl,?_⟩))
  refine q h4 _ (h1.objs.size + 1) h1.objs.size _ (n + 1) (fun b o ne g=>nl (k3 b o g) ne) g4 (Nat.le_succ_of_le le1) le1 (nl ((sb3.2 _ hb2).trans gb) hl3) ((nb2.sameBut sb3 hb1).sameBut sb4 hl2)
 refine wpAny_mono (run rfl) (fun f s2 z=>?_) fun _ _ z=>z
 obtain⟨v,rfl,z⟩:=z
 exact z
end
noncomputable def internSc:Scope:=MH.fnScope (MH.subSt (MH.stm 133) 1)
theorem intern_kinds:((["self","name","found"]:List PS).all (fun x=>internSc.names.lookup x == some .local))=true:=by kernel_rfl
section
variable{w:World}{A:Around}{s:Shared}{env:Env}{v:Value}{a d lr ld:Addr}{m mm:PS→Option Value}{kvs:List (PS × Value)}{x:PS}{t:Tok}
theorem names_get{p1 p2 p3 p4 ap p:Pos}{i:Nat}(es:EnvS env)(k1:env.kindOf "self" = some .local)(k2:env.kindOf "name" = some .local)(st:(KF w.params).In s.heap)(ns:s.heap.Ns env.locals m)(m1:m "self" = some (.ref a))(m2:m "name" = some (.str x t))(O:OB s.heap a d lr ld mm)(D:s.heap.DictOf (strKind prog w) ld kvs)(lo:(ld == sysModules)=false)(hp:ap.endLine=p.line){Q E:Value→Shared→Prop}
  (q:∀ tk,Q ((valueAt kvs x).getD .none) { s with toks:=tk }):wpAny (model prog w) A (eval (.Call (.Attribute (.Attribute (.Name "self" p1) "names" p2) "get" ap) [.Name "name" p3,.Constant .none i p4] [] p) env) Q E s:=by
 have nm:=nm_i
 obtain⟨pl,he⟩:=callM_he (e:=.Attribute (.Name "self" p1) "names" p2) (x:= "get") (es:=[.Name "name" p3,.Constant .none i p4]) rfl (Nat.le_of_ble_eq_true rfl) hp (fun _ _=>rfl) env
 refine methodCall_KW (pl:=pl) (ob_field es k1 st ns m1 O (by rw [← nm.2.2.2.2.2.2];exact O.mn) (.inr nm.2.2.2.2.2.2.symm) rfl ?_) he
 have T:∀ {s1:Shared},s1.heap=s.heap→s1.TypeIs (.ref ld) "dict" := fun e=>Heap.DictOf.typeIs (by rw [e];exact D)
 refine getMethod_builtin (T rfl) PySem.F.plainAttrs_dict PySem.F.slot_dict_get PySem.F.type_dict_get D.mapOf.noDict ?_
 refine callWith_of (P:=fun h=>KeepJ w h (.builtin "dict.get")) rfl (fun h x=>x) (evalArgs_spliced rfl ?_)
 refine spliced_more (name_ev es nb_i.2.1 k2 (by exact ns) m2 (spliced_more (wpAny_Constant_none (spliced_none ⟨⟨.machine,.inr (.inl rfl),.now⟩,?_⟩))))
 exact call_meetsIn PySem.F.slot_dict_get (T rfl) PySem.F.entry_dict_get (PySem.F.args_dict_get_3 _ _ _) (meets_dict_get_default (strKind prog w) ld (strKind_is prog w x t) lo .none) ⟨_,D.mapOf,q _⟩
set_option tactic.hygienic true in
theorem names_set{p1 p2 p3 p4 p5 p6:Pos}(es:EnvS env)(k1:env.kindOf "self" = some .local)(k2:env.kindOf "name" = some .local)(k3:env.kindOf "found" = some .local)(st:(KF w.params).In s.heap)(ns:s.heap.Ns env.locals m)(m1:m "self" = some (.ref a))(m2:m "name" = some (.str x t))(m3:m "found" = some v)(O:OB s.heap a d lr ld mm)(D:s.heap.DictOf (strKind prog w) ld kvs)(hz:kvs.length≤1000){Q:Flow→Shared→Prop}{E:Value→Shared→Prop}
  (q:∀ h' tk,h'.DictOf (strKind prog w) ld (stored kvs x v)→Heap.SameBut ld s.heap h'→Q .next { s with heap:=h',toks:=tk }):wpAny (model prog w) A (exec (.Assign [.Subscript (.Attribute (.Name "self" p1) "names" p2) (.Name "name" p3) p4] (.Name "found" p5) p6) env) Q E s:=by
 have nm:=nm_i
 refine wpAny_Assign_Subscript (name_ev es nb_f.1 k3 ns m3 (ob_field es k1 st ns m1 O (by rw [← nm.2.2.2.2.2.2];exact O.mn) (.inr nm.2.2.2.2.2.2.symm) rfl (name_ev es nb_i.2.1 k2 (by exact ns) m2 ?_))) rfl
 exact wpAny_setItem_pairs (s:={ s with toks:=s.toks + 1 }) (knd:=strKind prog w) (strKind_is prog w x t) D (fun h' D' sb=>q h' _ D' sb) (Nat.le_trans hz (by decide))
set_option tactic.hygienic true in
theorem call_fresh{p0 p1 p2 ap p q0:Pos}(hroom:A.depth + 3 < recursionLimit)(es:EnvS env)(k1:env.kindOf "self" = some .local)(k2:env.kindOf "name" = some .local)(k3:env.kindOf "found" = some .local)(st:(KF w.params).In s.heap)(lim:s.heap.NoLimit)(ns:s.heap.Ns env.locals m)(m1:m "self" = some (.ref a))(m2:m "name" = some v)(O:OB s.heap a d lr ld mm){rows:Array Value}{n:Nat}(gl:s.heap.get? lr=some ⟨.type "list",none,.seq rows n,#[]⟩)(hsz:rows.size≤1000)(hp:ap.endLine=p.line)(hl:env.locals≠lr){Q:Flow→Shared→Prop}{E:Value→Shared→Prop}
  (q:∀ h' tk b db t n',(∀ b o,b≠lr→b≠env.locals→s.heap.get? b=some o→h'.get? b=some o)→h'.get? lr=some ⟨.type "list",none,.seq (rows.push (.ref b)) n',#[]⟩→s.heap.objs.size≤b→s.heap.objs.size≤db→h'.get? b=some ⟨.ref (ZZ.clA 2),some db,.plain,#[]⟩ →
   h'.Ns1 db (fun y=>if y=nmS nName then some v else if y=nmS nNumber then some (.int rows.size t) else none)→h'.Ns env.locals (fun z=>if z= "found" then some (.ref b) else m z)→Q .next { s with heap:=h',toks:=tk }) :
  wpAny (model prog w) A (exec (.Assign [.Name "found" p0] (.Call (.Attribute (.Name "self" p1) "fresh" ap) [.Name "name" p2] [] p) q0) env) Q E s:=by
 have F:=inF w
 have C:=(kc_ok w).facts (c:=40) (cd:=c40) rfl (by decide)
 have ne:=ne_i
 have nm:=nm_i
 refine wpAny_Assign_Name ?_ rfl
 obtain⟨pl,he⟩:=callM_he (e:=.Name "self" p1) (x:= "fresh") (es:=[.Name "name" p2]) rfl (Nat.le_of_ble_eq_true rfl) hp (fun _ _=>rfl) env
 refine methodCall_KW (pl:=pl) (name_ev es nb_i.1 k1 ns m1 ?_) he
 have hm:mm "fresh" = none:=by
  cases h:mm "fresh" with
  | none=>rfl
  | some v =>
   rcases O.on _ _ h with z | z
   ·rw [nm.2.2.2.2.2.1] at z;exact absurd z ne.2.2.2.1
   ·rw [nm.2.2.2.2.2.2] at z;exact absurd z ne.2.2.2.2.1
 refine (mth_of (Z:=ZZ) (w:=w) st O.g rfl O.ns.ns C.get C.dict F.fr F.isf F.gt F.tk F.cp hm).2 A _ _ pl ?_
 refine callWith_of (P:=fun h=>KeepJ w h (.ref (ZZ.fnA 193))) rfl (fun h x=>x) (evalArgs_spliced rfl ?_)
 refine spliced_more (name_ev es nb_i.2.1 k2 (by exact ns) m2 (spliced_none ⟨keeps_K F.k193 _ (by exact st),wpAny_call (fresh_ok hroom (by exact st) (by exact lim) O gl hsz fun h1 tk b db t n' k1' gl1 lb ldb gb nb1=>?_)⟩))
 have lt:=ns.lt
 have ns1:h1.Ns env.locals m:=let ⟨o,es',ep,g,r⟩:=ns;⟨o,es',ep,k1' _ _ hl g,r⟩
 refine wpAny_storeName_local (s:={ s with heap:=h1,toks:=tk }) k3 ns1 (fun h2 ns2 sb2=>?_) (by rw [es.kind];rfl)
 exact q h2 _ b db t n' (fun b o n1 n2 g=>(sb2.2 b n2).trans (k1' b o n1 g)) ((sb2.2 _ hl.symm).trans gl1) lb ldb ((sb2.2 _ (Nat.ne_of_gt (Nat.lt_of_lt_of_le lt lb))).trans gb) (nb1.sameBut sb2 (Nat.ne_of_gt (Nat.lt_of_lt_of_le lt ldb))) ns2
end
section
variable{w:World}{A:Around}{s:Shared}{a d lr ld:Addr}{mm:PS→Option Value}{kvs:List (PS × Value)}{x:PS}{t:Tok}
theorem intern_ok(hroom:A.depth + 4 < recursionLimit)(st:(KF w.params).In s.heap)(lim:s.heap.NoLimit)(O:OB s.heap a d lr ld mm){rows:Array Value}{n:Nat}(gl:s.heap.get? lr=some ⟨.type "list",none,.seq rows n,#[]⟩)(hsz:rows.size≤1000)(D:s.heap.DictOf (strKind prog w) ld kvs)(hk:kvs.length≤1000)(lo:(ld == sysModules)=false)(ne1:a≠lr)(ne2:a≠ld)(ne3:d≠lr)(ne4:d≠ld)(ne5:lr≠ld)
  (stl:∀ b o,(KF w.params).lookup b=some o→b≠lr) (hv:∀ v,valueAt kvs x=some v→∃ b,v=.ref b) {R:Result→Shared→Prop}
  (qA:∀ v h' tk,valueAt kvs x=some v→(∀ b o,s.heap.get? b=some o→h'.get? b=some o)→R (.ok (.ret v)) { s with heap:=h',toks:=tk })
  (qB:∀ h' tk b db t' n',valueAt kvs x=none→(∀ b o,b≠lr→b≠ld→s.heap.get? b=some o→h'.get? b=some o)→h'.get? lr=some ⟨.type "list",none,.seq (rows.push (.ref b)) n',#[]⟩→h'.DictOf (strKind prog w) ld (stored kvs x (.ref b))→s.heap.objs.size≤b→s.heap.objs.size≤db →
   h'.get? b=some ⟨.ref (ZZ.clA 2),some db,.plain,#[]⟩→h'.Ns1 db (fun y=>if y=nmS nName then some (.str x t) else if y=nmS nNumber then some (.int rows.size t') else none)→R (.ok (.ret (.ref b))) { s with heap:=h',toks:=tk }) :
  codeAny (model prog w) A (.call (.ref (ZZ.fnA 191)) ⟨[.ref a,.str x t],[]⟩) R s:=by
 have nm:=nm_i
 have ne:=ne_i
 refine call_real (pf_all w).2.2.1 (by kernel_rfl) (Nat.lt_of_le_of_lt (Nat.le_add_right _ _) hroom) st lim rfl fun env h1 tk hsc es hel ns k1=>?_
 have kd:∀ {x:PS},x∈(["self","name","found"]:List PS)→env.kindOf x=some .local:=kinds_of intern_kinds hsc
 have m0:((([2,11]:List Nat).map nmS).zip [Value.ref a,.str x t]).reverse.lookup ("self" : PS)=some (.ref a):=by
  rw [List.map,List.map,List.map,nm.1,nm.2.2.1]
  simp [List.lookup,beq_eq_false_iff_ne.mpr ne.1]
 have m2:((([2,11]:List Nat).map nmS).zip [Value.ref a,.str x t]).reverse.lookup ("name" : PS)=some (.str x t):=by
  rw [List.map,List.map,List.map,nm.1,nm.2.2.1]
  simp [List.lookup]
 generalize hmm:(fun y=>((([2,11]:List Nat).map nmS).zip [Value.ref a,.str x t]).reverse.lookup y)=fm at ns
 have m0:fm "self" = some (.ref a):=by rw [← hmm];exact m0
 have m2:fm "name" = some (.str x t):=by rw [← hmm];exact m2
 have ofl:∀ {b o},s.heap.get? b=some o→b≠env.locals:=fun g=>by rw [hel];exact Nat.ne_of_lt (Heap.lt_size g)
 have ll:env.locals≠lr:=fun z=>ofl gl z.symm
 have lda:∃ o,s.heap.get? ld=some o:=let ⟨o,_,_,g,_⟩:=D;⟨o,g⟩
 have lld:env.locals≠ld:=fun z=>by obtain⟨o,g⟩:=lda;exact ofl g z.symm
 have run:∀ {body:List Stmt},body=MH.fnBody (MH.subSt (MH.stm 133) 1)→wpAny (model prog w) (A.deeper env) (execs body env) (fun f s2=>∃ v,f=.ret v∧R (.ok (.ret v)) s2) (fun _ _=>False) { s with heap:=h1,toks:=tk }:=fun hb=>by
  rw [hb]
  refine wpAny_execs_cons (wpAny_Assign_Name (names_get es (kd (by simp)) (kd (by simp)) (by exact fun b o g=>k1 b o (st b o g)) (by exact ns) m0 m2 (by exact O.keep (k1 _) (k1 _)) (by exact D.keep k1) lo (by rfl) fun tk1=>?_) rfl)
  refine wpAny_storeName_local (s:={ s with heap:=h1,toks:=tk1 }) (kd (by simp)) ns (fun h2 ns2 sb2=>?_) (by rw [es.kind];rfl)
  have k2:∀ b o,s.heap.get? b=some o→h2.get? b=some o:=fun b o g=>(sb2.2 b (ofl g)).trans (k1 b o g)
  generalize hf:(fun z:PS=>if z= "found" then some ((valueAt kvs x).getD .none) else fm z)=fm2 at ns2
  have f0:fm2 "self" = some (.ref a):=by rw [← hf];show (if _ then _ else _)=_;rw [if_neg ne.2.2.2.2.2.1];exact m0
  have f2:fm2 "name" = some (.str x t):=by rw [← hf];show (if _ then _ else _)=_;rw [if_neg ne.2.2.2.2.2.2];exact m2
  have f3:fm2 "found" = some ((valueAt kvs x).getD .none):=by rw [← hf];exact if_pos rfl
  refine wpAny_execs_cons (wpAny_If (wpAny_isTrue_Compare1 (name_ev es nb_f.1 (kd (by simp)) (by exact ns2) f3 (wpAny_Constant_none (is_none (wpAny_truthy_bool ?_)))) rfl))
  cases hva:valueAt kvs x with
  | some v =>
   obtain⟨b,rfl⟩:=hv v hva
   show wpAny _ _ (execs [] env) _ _ _
   refine wpAny_execs_nil (wpAny_execs_cons (wpAny_Return_some (name_ev es nb_f.1 (kd (by simp)) (by exact ns2) (by rw [f3,hva];rfl) ⟨_,rfl,qA _ h2 _ hva k2⟩)))
  | none =>
   show wpAny _ _ (execs [_,_] env) _ _ _
   have le2:s.heap.objs.size≤h2.objs.size:=by rw [sb2.1,← hel];exact Nat.le_of_lt ns.lt
   refine wpAny_execs_cons (call_fresh (by show A.depth + 1 + 3 < recursionLimit;omega) es (kd (by simp)) (kd (by simp)) (kd (by simp)) (by exact fun b o g=>k2 b o (st b o g)) (by exact lim.keeps k2) (by exact ns2) f0 f2 (by exact O.keep (k2 _) (k2 _)) (k2 _ _ gl) hsz (by rfl) ll fun h3 tk3 b db t' n' k3 gl3 lb ldb gb nb3 ns3=>?_)
   have k3':∀ b o,b≠lr→s.heap.get? b=some o→h3.get? b=some o:=fun b o n1 g=>k3 b o n1 (ofl g) (k2 b o g)
   have kl:∀ {b},b≠lr→∀ o,s.heap.get? b=some o→h3.get? b=some o:=fun n o g=>k3' _ o n g
   have D3:h3.DictOf (strKind prog w) ld kvs:=D.at (kl ne5.symm)
   refine wpAny_execs_cons (names_set es (kd (by simp)) (kd (by simp)) (kd (by simp)) (by exact fun b o g=>k3' b o (stl b o g) (st b o g)) (by exact ns3) ((if_neg ne.2.2.2.2.2.1).trans f0) ((if_neg ne.2.2.2.2.2.2).trans f2) (if_pos rfl) (by exact O.keep (kl ne1) (kl ne3)) (by exact D3) hk fun h4 tk4 D4 sb4=>wpAny_execs_nil ?_)
   have ldl:ld < s.heap.objs.size:=by obtain⟨o,g⟩:=lda;exact Heap.lt_size g
   have ns4:=ns3.sameBut sb4 lld
   refine wpAny_execs_cons (wpAny_Return_some (name_ev es nb_f.1 (kd (by simp)) (by exact ns4) (if_pos rfl) ⟨_,rfl,?_⟩))
   exact qB h4 _ b db t' n' hva (fun b o n1 n2 g=>(sb4.2 b n2).trans (k3' b o n1 g)) ((sb4.2 _ ne5).trans gl3) D4 (Nat.le_trans le2 lb) (Nat.le_trans le2 ldb) ((sb4.2 _ (Nat.ne_of_gt (Nat.lt_of_lt_of_le ldl (Nat.le_trans le2 lb)))).trans gb) (nb3.sameBut sb4 (Nat.ne_of_gt (Nat.lt_of_lt_of_le ldl (Nat.le_trans le2 ldb))))
 refine wpAny_mono (run rfl) (fun f s2 z=>?_) fun _ _ z=>z
 obtain⟨v,rfl,z⟩:=z
 exact z
end
noncomputable def Gh.sy(γ:Gh)(s:Nat)(b:Addr)(k:Nat):Gh:={ γ with sg:=fun t=>if t=s then some b else γ.sg t,nu:=fun t=>if t=s then k else γ.nu t }
section
variable{Z:SA}{w:World}{γ:Gh}{h h':Heap}{s:Shared}{H:HT}{n si k:Nat}{b:Addr}
theorem Gh.sy_s:(γ.sy si b k).sg si=some b∧(γ.sy si b k).nu si=k:=⟨if_pos rfl,if_pos rfl⟩
theorem Gh.sy_ne{t:Nat}(e:t≠si):(γ.sy si b k).sg t=γ.sg t∧(γ.sy si b k).nu t=γ.nu t:=⟨if_neg e,if_neg e⟩
theorem Gh.sy_old(hn:γ.sg si=none){t:Nat}{a:Addr}(e:γ.sg t=some a):(γ.sy si b k).sg t=some a∧(γ.sy si b k).nu t=γ.nu t:=by
 have:t≠si:=fun z=>by rw [z,hn] at e;cases e
 exact⟨(Gh.sy_ne this).1.trans e,(Gh.sy_ne this).2⟩
theorem sy_tr(hn:γ.sg si=none):Tr (fun _=>True) γ (γ.sy si b k) h h :=
 ⟨fun _ _ e f=>⟨e,f⟩,fun _ o fs e f d=>⟨f,fs,by rw [e];cases o;dsimp only at d;rw [d]⟩,fun _ _ _ e=>e,fun _ _ e=>Gh.sy_old hn e,fun _ _ _ e=>e,fun _=>rfl⟩
theorem vr_sy(hn:γ.sg si=none){v:V}{rv:Value}(x:VR Z γ h v rv):VR Z (γ.sy si b k) h v rv:=x.map (sy_tr hn) fun _ _=>trivial
theorem vrs_sy(hn:γ.sg si=none){v:List V}{rv:List Value}(x:VRs Z γ h v rv):VRs Z (γ.sy si b k) h v rv:=x.map (sy_tr hn) fun _ _=>trivial
theorem pre_sy{p:Nat}{pre:List Value}(x:PreR γ h p pre):PreR (γ.sy si b k) h p pre:=by
 unfold PreR at x ⊢
 by_cases q:p=0
 ·rw [if_pos q] at x ⊢;exact x
 ·rw [if_neg q] at x ⊢
  exact⟨x.1,fun i rv zs e1 e2=>let ⟨a,ws,n,q1,q2,q3,q4,q5⟩:=x.2 i rv zs e1 e2;⟨a,ws,n,q1,q2,q3,q4,q5⟩⟩
theorem ObjR.sy(hn:γ.sg si=none)(hk:∀ t a,γ.sg t=some a→γ.nu t < k){i:Nat}{o:O}(no:o≠.obar)(x:ObjR Z w γ h i o):ObjR Z w (γ.sy si b k) h i o:=by
 cases o with
 | gone=>exact x
 | inst c fs =>
  obtain⟨a,d,m,cd,hcd,hk2,hfl,o1,g,nsd,r⟩:=x
  exact⟨a,d,m,cd,hcd,hk2,hfl,⟨o1.1,o1.2,o1.3⟩,g,nsd,⟨fun z v e=>let ⟨rv,e1,v1⟩:=r.1 z v e;⟨rv,e1,vr_sy hn v1⟩,r.2⟩⟩
 | lst p vs =>
  obtain⟨a,pre,ws,n,o1,g,pr,v,r,r2⟩:=x
  exact⟨a,pre,ws,n,⟨o1.1,o1.2⟩,g,pre_sy pr,vrs_sy hn v,r,r2⟩
 | dic kd fs =>
  obtain⟨a,es,o1,D,⟨d1,d2,d3,d4,d5⟩⟩:=x
  refine ⟨a,es,⟨o1.1,o1.2⟩,D,⟨fun p hp=>?_,d2,fun t a v e1 e2=>?_,fun t a e1 e2=>?_,fun t v e=>?_⟩⟩
  ·obtain⟨t,a,e1,e2⟩:=d1 p hp
   obtain⟨q1,q2⟩:=Gh.sy_old (b:=b) (k:=k) hn e1
   exact⟨t,a,q1,by rw [q2];exact e2⟩
  ·by_cases z:t=si
   ·rw [z] at e2
    obtain⟨a,e3⟩:=d5 si v e2
    rw [hn] at e3;cases e3
   ·rw [(Gh.sy_ne z).1] at e1
    rw [(Gh.sy_ne z).2]
    obtain⟨rv,q1,q2⟩:=d3 t a v e1 e2
    exact⟨rv,q1,vr_sy hn q2⟩
  ·by_cases z:t=si
   ·left
    rw [z,Gh.sy_s.2]
    unfold valueAt
    rw [List.find?_eq_none.mpr fun p hp=>?_]
    ·rfl
    ·obtain⟨t',a',e3,e4⟩:=d1 p hp
     have:=hk t' a' e3
     simp;omega
   ·rw [(Gh.sy_ne z).1] at e1
    rw [(Gh.sy_ne z).2]
    exact d4 t a e1 e2
  ·obtain⟨a,e3⟩:=d5 t v e
   exact⟨a,(Gh.sy_old hn e3).1⟩
 | obar=>exact absurd rfl no
 | sdic vx vy =>
  obtain⟨a,v₁,v₂,o1,D,d1,d2⟩:=x
  exact⟨a,v₁,v₂,⟨o1.1,o1.2⟩,D,vr_sy hn d1,vr_sy hn d2⟩
 | ntab d=>obtain⟨a,ob,o1,r⟩:=x;exact⟨a,ob,⟨o1.1,o1.2⟩,r,by assumption,by assumption⟩
 | deck=>obtain⟨a,c,e,o1,D⟩:=x;exact⟨a,c,e,⟨o1.1,o1.2,o1.3,o1.4⟩,D⟩
theorem nodup_bound{α:Type}{f:Nat→α}{N:Nat}:∀ {l:List α},l.Nodup→(∀ p∈l,∃ t,t < N∧p=f t)→l.length≤N:=fun {l} hn hp=>by
 have:∃ ss:List Nat,ss.map f=l∧∀ x∈ss,x < N:=by
  clear hn
  induction l with
  | nil=>exact⟨[],rfl,fun _ h=>nomatch h⟩
  | cons p l ih =>
   obtain⟨ss,e1,e2⟩:=ih fun q hq=>hp q (.tail _ hq)
   obtain⟨t,h1,h2⟩:=hp p (.head _)
   exact⟨t :: ss,by rw [List.map,e1,h2],fun x hx=>by rcases List.mem_cons.mp hx with rfl | hx;exact h1;exact e2 x hx⟩
 obtain⟨ss,e1,e2⟩:=this
 rw [← e1,List.length_map]
 refine nodup_lt _ _ ?_ e2
 rw [← e1] at hn
 exact (List.pairwise_map.mp hn).imp fun h z=>h (by rw [z])
theorem stored_none{kvs:List (PS × Value)}{x:PS}{v:Value}(h:valueAt kvs x=none):stored kvs x v=kvs ++ [(x,v)]∧∀ p∈kvs,p.1≠x:=by
 unfold valueAt at h
 have h:kvs.find? (fun kv=>decide (kv.1=x))=none:=by
  cases e:kvs.find? (fun kv=>decide (kv.1=x)) with
  | none=>rfl
  | some p=>rw [e] at h;cases h
 have h2:∀ p∈kvs,p.1≠x:=fun p hp=>by simpa using List.find?_eq_none.mp h p hp
 refine ⟨?_,h2⟩
 unfold stored
 rw [if_neg]
 rw [Bool.not_eq_true,List.any_eq_false]
 exact fun p hp=>by simpa using h2 p hp
end
section
variable{w:World}{γ:Gh}{h h':Heap}{s:Shared}{H:HT}{n si k o N:Nat}{b db lr ld:Addr}{A:Around}{kx:KV}{hd:Bool}
theorem intern_rel(R:Rel ZZ w γ H n s)(hobi:γ.obi=some o)(hn:γ.sg si=none)(hsi:si < names.length)(hk:∀ t a,γ.sg t=some a→γ.nu t < k)(keep:∀ b ob,b≠lr→b≠ld→s.heap.get? b=some ob→h'.get? b=some ob)(o1:γ.own lr=.obj o 2)(o2:γ.own ld=.obj o 3)
  (hz:s.heap.objs.size≤h'.objs.size) {tk:Tok} (ht:s.toks≤tk) (lb:s.heap.objs.size≤b) (ldb:s.heap.objs.size≤db) (gb:h'.get? b=some ⟨.ref (ZZ.clA 2),some db,.plain,#[]⟩) {t1 t2:Tok} (nb:h'.Ns1 db (fun y=>if y=nmS nName then some (.str (nmS si) t1) else if y=nmS nNumber then some (.int k t2) else none))
  (hj:ObjR ZZ w (γ.sy si b k) h' o .obar):Rel ZZ w (γ.sy si b k) H n { s with heap:=h',toks:=tk }∧Kp NX γ s.heap (γ.sy si b k) h':=by
 have kf:∀ {b ob},s.heap.get? b=some ob→(∀ i p,γ.own b≠.obj i p)→h'.get? b=some ob:=fun g f=>keep _ _ (fun z=>f _ _ (z ▸ o1)) (fun z=>f _ _ (z ▸ o2)) g
 have kx:∀ {b ob x},s.heap.get? b=some ob→γ.own b=x→(∀ i p,x≠.obj i p)→h'.get? b=some ob:=fun g e f=>kf g (by rw [e];exact f)
 have K0:Kp NX γ s.heap γ h':=⟨hz,fun _ _=>rfl,fun b ob g f=>kx g f (fun _ _=>Ow.noConfusion),fun b ob g f _=>⟨ob.slots,kx g f (fun _ _=>Ow.noConfusion)⟩,fun b ob g f _=>kx g f (fun _ _=>Ow.noConfusion),
  fun b ob fs g f d=>.same (kx g f (fun _ _=>Ow.noConfusion)) d (TbOk.keep (fun b ob g f=>kx g f (fun _ _=>Ow.noConfusion)) fun _ _=>rfl),fun _ _ e=>⟨e,rfl⟩,fun _ _ e=>e,fun _ _=>rfl,rfl,fun _ e=>e⟩
 have K:Kp NX γ s.heap (γ.sy si b k) h':=⟨hz,fun _ _=>rfl,K0.free,K0.env,K0.itr,
  fun b ob fs g f d=>.same (kx g f (fun _ _=>Ow.noConfusion)) d (TbOk.keep (fun b ob g f=>kx g f (fun _ _=>Ow.noConfusion)) fun _ _=>rfl),fun _ _ e=>Gh.sy_old hn e,fun _ _ e=>e,fun _ _=>rfl,rfl,fun _ e=>e⟩
 have S:=R.sym
 have one:∀ {t a},γ.sg t=some a→a≠b:=fun e z=>by
  obtain⟨_,_,d,m,t1,t2,g,_⟩:=S.at_ _ _ e
  exact absurd (Heap.lt_size g) (by rw [z];exact Nat.not_lt.mpr lb)
 refine ⟨⟨fun a ob e=>K.free a ob (R.st a ob e) (R.stf a ob e),R.stf,fun x q=>Nat.lt_of_lt_of_le (R.bnd x q) hz,fun i=>?_,R.fresh,⟨fun t a e=>?_,fun t u a c e1 e2 e3=>?_,fun t u a e1 e2=>?_,?_,?_⟩,R.obi,fun e=>?_,?_,R.limf,R.gens,fun e=>R.tkn (Nat.le_zero.mp (e ▸ ht))⟩,K⟩
 ·by_cases e:i=o
  ·rw [e,R.obi o hobi];exact hj
  ·have no:H.get i≠.obar:=fun z=>by
    have x:=R.obj i
    rw [z] at x
    obtain⟨_,_,_,_,_,_,_,_,_,x,_⟩:=x
    rw [hobi] at x;cases x;exact e rfl
   refine ObjR.sy hn hk no ((R.obj i).mono K0 R.bnd ⟨rfl,rfl⟩ (fun x p q=>?_) fun x p=>Iff.rfl)
   obtain⟨ob,g⟩:=R.there q
   rw [g]
   exact keep _ _ (fun z=>by rw [z,o1] at q;cases q;exact e rfl) (fun z=>by rw [z,o2] at q;cases q;exact e rfl) g
 ·by_cases z:t=si
  ·subst z
   rw [Gh.sy_s.1] at e
   cases e
   exact⟨hsi,R.freshFree lb,db,_,t1,t2,gb,R.freshFree ldb,nb.ns,if_pos rfl,(if_neg (fun z=>by have:=nm_i;rw [this.2.2.2.1,this.2.2.2.2.1] at z;exact ne_i.2.2.1 z)).trans (by rw [if_pos rfl,Gh.sy_s.2]),fun y v e=>by
    by_cases z1:y=nmS nName
    ·exact .inl z1
    ·by_cases z2:y=nmS nNumber
     ·exact .inr z2
     ·rw [if_neg z1,if_neg z2] at e;cases e⟩
  ·rw [(Gh.sy_ne z).1] at e
   obtain⟨x1,x2,d,m,u1,u2,x3,x4,x5,x6,x7,x8⟩:=(R.sym.mono K0 ⟨rfl,rfl⟩).at_ t a e
   exact⟨x1,x2,d,m,u1,u2,x3,x4,x5,x6,by rw [(Gh.sy_ne z).2];exact x7,x8⟩
 ·by_cases z1:t=si
  ·by_cases z2:u=si
   ·rw [z1,z2]
   ·rw [(Gh.sy_ne z2).1] at e2
    rw [z1,Gh.sy_s.2,(Gh.sy_ne z2).2] at e3
    have:=hk u c e2
    omega
  ·rw [(Gh.sy_ne z1).1] at e1
   by_cases z2:u=si
   ·rw [z2,Gh.sy_s.2,(Gh.sy_ne z1).2] at e3
    have:=hk t a e1
    omega
   ·rw [(Gh.sy_ne z2).1] at e2
    rw [(Gh.sy_ne z1).2,(Gh.sy_ne z2).2] at e3
    exact S.inj t u a c e1 e2 e3
 ·by_cases z1:t=si
  ·by_cases z2:u=si
   ·rw [z1,z2]
   ·rw [(Gh.sy_ne z2).1] at e2
    rw [z1,Gh.sy_s.1] at e1
    cases e1
    exact absurd rfl (one e2)
  ·rw [(Gh.sy_ne z1).1] at e1
   by_cases z2:u=si
   ·rw [z2,Gh.sy_s.1] at e2
    cases e2
    exact absurd rfl (one e1)
   ·rw [(Gh.sy_ne z2).1] at e2
    exact S.uniq t u a e1 e2
 ·obtain⟨q1,q2⟩:=Gh.sy_old (b:=b) (k:=k) hn S.nil.1
  exact⟨q1,q2.trans S.nil.2⟩
 ·obtain⟨q1,q2⟩:=Gh.sy_old (b:=b) (k:=k) hn S.tee.1
  exact⟨q1,q2.trans S.tee.2⟩
 ·have e:γ.obi=none:=e
  rw [hobi] at e;cases e
 ·obtain⟨mc,⟨ob,es,ep,q,r⟩,u⟩:=R.lim
  exact⟨mc,⟨ob,es,ep,K.free _ _ q R.limf,r⟩,u⟩
end
end Mine
end
section
open PySem renaming Expr→PX,Str→PS
open PySem PySem.W PySem.Calls PyProof.Rows PySem.SeqAt
namespace Mine
theorem codeAny_grow{M:Model}{A:Around}{s:Shared}{c:Code}{R:Result→Shared→Prop}(h:codeAny M A c (fun r s'=>s.heap.objs.size≤s'.heap.objs.size→s.toks≤s'.toks→R r s') s):codeAny M A c R s :=
 fun Γ p hc hΓ=>by obtain⟨r,s',hr,hR⟩:=h Γ p hc hΓ;exact⟨r,s',hr,hR (runs_size hr) hr.toks_le⟩
section
variable{w:World}{γ:Gh}{s:Shared}{H:HT}{n N:Nat}{A:Around}{k kx:KV}
theorem prim_intern{vs:VL}{rvs:List Value}(a1:A.depth + 1 + 3 * N≤690)(R:Rel ZZ w γ H n s)(vr:VRs ZZ γ s.heap vs rvs)(q:prim191 vs H n k=true):codeAny (model prog w) A (.call (.ref (ZZ.fnA 191)) ⟨rvs,[]⟩) (CallR ZZ w γ s k kx) s:=by
 obtain⟨u,u',r1,r2,rfl,rfl,v1,v2,q⟩:=as2_ok q vr
 obtain⟨o,rfl,q⟩:=asRef_ok q
 obtain⟨si,rfl,q⟩:=(asStr_ok q).resolve_right (fun z=>nomatch z)
 obtain⟨ho,q⟩:=brecT q
 have ho:=isObar_ok ho
 obtain⟨a0,rfl,oa⟩:=v1
 obtain⟨t,rfl,hsi⟩:=v2
 have ob:=R.obj o
 rw [ho] at ob
 obtain⟨a,d,lr,ld,m,rows,nr,kvs,oo,hobi,g,ns,mr,mn,on,gl,D,hz,nd,e1,e2⟩:=ob
 have ap:∀ {x y:Addr} {p r:Nat},γ.own x=.obj o p→γ.own y=.obj o r→p≠r→x≠y:=fun h1 h2 ne z=>by rw [z,h2] at h1;cases h1;exact ne rfl
 obtain rfl:=oo.at0 oa
 obtain⟨o1,o2,o3,o4,o5⟩:=oo
 have hb:kvs.length≤names.length:=by
  rw [← List.length_map (f:=(·.1))]
  refine nodup_bound (f:=nmS) nd fun p hp=>?_
  obtain⟨kv,hkv,rfl⟩:=List.mem_map.mp hp
  obtain⟨t,b,h1,h2⟩:=e1 kv hkv
  exact⟨t,(R.sym.at_ t b h1).1,by rw [h2]⟩
 have hb2:kvs.length≤1000:=Nat.le_trans hb (Nat.le_trans names_len (by decide))
 have lo:(ld == sysModules)=false:=by
  obtain⟨so,hso⟩:=(kc_ok w).sys
  have:=R.stf _ _ hso
  rw [beq_eq_false_iff_ne];intro z;subst z;rw [this] at o4;cases o4
 have inv:∀ v,valueAt kvs (nmS si)=some v→∃ b,v=.ref b∧γ.sg si=some b:=fun v hv=>by
  obtain⟨p,hp,hv⟩:=Option.map_eq_some_iff.mp hv
  obtain⟨t,b,h1,h2⟩:=e1 p (List.mem_of_find?_eq_some hp)
  have h3:p.1=nmS si:=by simpa using List.find?_some hp
  rw [h2] at h3 hv
  have:t=si:=nmS_inj (R.sym.at_ t b h1).1 hsi h3
  exact⟨b,hv.symm,this ▸ h1⟩
 refine codeAny_grow (intern_ok (by show A.depth + 4 < 1000;omega) R.st R.lim ⟨g,ns,mr,mn,on⟩ gl (by rw [hz];exact hb2) D hb2 lo (ap o1 o3 (by decide)) (ap o1 o4 (by decide)) (ap o2 o3 (by decide)) (ap o2 o4 (by decide)) (ap o3 o4 (by decide)) (fun b ob e z=>by have:=R.stf b ob e;rw [z,o3] at this;cases this) (fun v hv=>let ⟨b,h,_⟩:=inv v hv;⟨b,h⟩) (fun v h' tk hv keep z1 z2=>?_) fun h' tk b db t' n' hv keep gl' D' lb ldb gb nb z1 z2=>?_)
 ·obtain⟨b,rfl,hs⟩:=inv v hv
  have S:Sm γ s { γ with own:=γ.own } { s with heap:=h',toks:=tk }:=Sm.fresh R γ.own keep z1 (fun _ _=>rfl) (fun b i p lb=>by rw [R.freshFree lb];exact Ow.noConfusion) (fun b e=>Nat.lt_of_lt_of_le (R.bnd b e) z1) z2
  exact⟨_,H,n,γ,q,R.sm S,S.K,.sym hs,S.fro⟩
 ·obtain⟨es,hne⟩:=stored_none (v:=.ref b) hv
  rw [es] at D'
  have hn:γ.sg si=none:=by
   cases e:γ.sg si with
   | none=>rfl
   | some c=>exact absurd rfl (hne _ (e2 si c e).1)
  have hk:∀ t a,γ.sg t=some a→γ.nu t < rows.size:=fun t a e=>(e2 t a e).2
  have hj:ObjR ZZ w (γ.sy si b rows.size) h' o .obar:=by
   refine ⟨a0,d,lr,ld,m,rows.push (.ref b),n',kvs ++ [(nmS si,.ref b)],⟨o1,o2,o3,o4,o5⟩,hobi,keep _ _ (ap o1 o3 (by decide)) (ap o1 o4 (by decide)) g,ns.at fun ob e=>keep _ _ (ap o2 o3 (by decide)) (ap o2 o4 (by decide)) e,mr,mn,on,gl',D',by rw [Array.size_push,List.length_append,hz];rfl,?_,fun p hp=>?_,fun t c e=>?_⟩
   ·rw [List.map_append,List.nodup_append]
    refine ⟨nd,by simp,fun x hx y hy=>?_⟩
    obtain⟨p,hp,rfl⟩:=List.mem_map.mp hx
    have:y=nmS si:=by simpa using hy
    rw [this]
    exact hne p hp
   ·rcases List.mem_append.mp hp with hp | hp
    ·obtain⟨t,c,h1,h2⟩:=e1 p hp
     exact⟨t,c,(Gh.sy_old hn h1).1,h2⟩
    ·exact⟨si,b,Gh.sy_s.1,List.mem_singleton.mp hp⟩
   ·by_cases z:t=si
    ·subst z
     rw [Gh.sy_s.1] at e
     cases e
     exact⟨List.mem_append_right _ (.head _),by rw [Gh.sy_s.2,Array.size_push];exact Nat.lt_succ_self _⟩
    ·rw [(Gh.sy_ne z).1] at e
     obtain⟨h1,h2⟩:=e2 t c e
     exact⟨List.mem_append_left _ h1,by rw [(Gh.sy_ne z).2,Array.size_push];exact Nat.lt_succ_of_lt h2⟩
  obtain⟨R',K'⟩:=intern_rel (b:=b) (k:=rows.size) (tk:=tk) R hobi hn hsi hk keep o3 o4 z1 z2 lb ldb gb nb hj
  exact⟨_,H,n,_,q,R',K',.sym Gh.sy_s.1,⟨rfl,rfl,rfl⟩⟩
end
end Mine
end
section
open PySem renaming Expr→PX,Str→PS
open PySem PySem.W PySem.Spec PySem.Calls PyProof.Rows PySem.SeqAt
namespace Mine
noncomputable def noterSc:Scope:=MH.fnScope (MH.stm 140)
theorem noter_sc:(noterSc.names.lookup ("notes" : PS) == some .cell && noterSc.names.lookup ("deed" : PS) == some .local)=true:=by kernel_rfl
theorem noter_cells(k:Nat):cellsFrom k noterSc.names []=[(("notes" : PS),k)]:=by kernel_rfl
noncomputable def deedSc:Scope:=MH.fnScope deedSt
theorem deed_sc:((deedSc.names.all fun p=>p.2 != .free || p.1 == "notes") && (deedSc.names.filter (fun p=>p.2 == .free)).length == 1)=true:=by kernel_rfl
noncomputable def isStrV:Value→Bool
 | .str _ _=>true
 | _=>false
noncomputable def isIntV:Value→Bool
 | .int _ _=>true
 | _=>false
noncomputable def isBoolV:Value→Bool
 | .bool _=>true
 | _=>false
theorem strV{v:Value}(e:isStrV v=true):∃ x t,v=.str x t:=by cases v with | str x t=>exact⟨x,t,rfl⟩ | _=>exact ff e
theorem intV{v:Value}(e:isIntV v=true):∃ x t,v=.int x t:=by cases v with | int x t=>exact⟨x,t,rfl⟩ | _=>exact ff e
theorem boolV{v:Value}(e:isBoolV v=true):∃ b,v=.bool b:=by cases v with | bool b=>exact⟨b,rfl⟩ | _=>exact ff e
noncomputable def glbB(o:Option Obj):Bool:=match o with
 | some ⟨_,_,.dict es _,_⟩=>es.toList.all (fun e=>isStrV e.key) && nsFind es "__builtins__" == some (.ref 4)
 | _=>false
noncomputable def modB(o:Option Obj):Bool:=match o with
 | some ⟨c,d,.plain,_⟩=>c == .type "module" && d == some builtinsNs
 | _=>false
noncomputable def codB(o:Option Obj):Bool:=match o with
 | some ⟨c,_,.fields vs,_⟩=>c == .type "code" && vs[11]? == some (.ref 1988) && vs.getD 11 .none == .ref 1988 && isStrV (vs.getD 18 .none) && isIntV (vs.getD 7 .none) && isBoolV (vs.getD 9 .none) && isIntV (vs.getD 10 .none)
 | _=>false
theorem n_facts(P:Params):(glbB ((KF P).lookup mainGlobals) && modB ((KF P).lookup 4) && codB ((KF P).lookup 1992) && (fdAt P 207).map (·.code) == some (.ref 1992))=true:=by kernel_rfl
theorem glb_of{h:Heap}{o:Option Obj}(e:glbB o=true){a:Addr}(g:∀ ob,o=some ob→h.get? a=some ob):∃ mg,h.Ns a mg∧mg "__builtins__" = some (.ref 4):=by
 cases o with
 | none=>exact ff e
 | some ob =>
  obtain⟨c,d,dt,sl⟩:=ob
  cases dt with
  | dict es ep =>
   have e:(es.toList.all (fun e=>isStrV e.key) && nsFind es "__builtins__" == some (.ref 4))=true:=e
   rw [Bool.and_eq_true,List.all_eq_true,beq_iff_eq] at e
   exact⟨nsFind es,⟨_,es,ep,g _ rfl,rfl,fun en he=>strV (e.1 en (Array.mem_toList_iff.mpr he)),fun _=>rfl⟩,e.2⟩
  | _=>exact ff e
theorem mod_of{h:Heap}{o:Option Obj}(e:modB o=true)(g:∀ ob,o=some ob→h.get? 4=some ob){mg:PS→Option Value}(hm:mg "__builtins__" = some (.ref 4)):h.BuiltinsAt mg 1988:=by
 cases o with
 | none=>exact ff e
 | some ob =>
  obtain⟨c,d,dt,sl⟩:=ob
  cases dt with
  | plain =>
   have e:(c == .type "module" && d == some builtinsNs)=true:=e
   rw [Bool.and_eq_true,beq_iff_eq,beq_iff_eq] at e
   exact⟨4,_,hm,by decide,by decide,by decide,g _ rfl,e.1,e.2,rfl⟩
  | _=>exact ff e
theorem cod_of{h:Heap}{o:Option Obj}(e:codB o=true)(g:∀ ob,o=some ob→h.get? 1992=some ob):CodeHd h 1992 1988:=by
 cases o with
 | none=>exact ff e
 | some ob =>
  obtain⟨c,d,dt,sl⟩:=ob
  cases dt with
  | fields vs =>
   have e:(c == .type "code" && vs[11]? == some (.ref 1988) && vs.getD 11 .none == .ref 1988 && isStrV (vs.getD 18 .none) && isIntV (vs.getD 7 .none) && isBoolV (vs.getD 9 .none) && isIntV (vs.getD 10 .none))=true:=e
   rw [Bool.and_eq_true,Bool.and_eq_true,Bool.and_eq_true,Bool.and_eq_true,Bool.and_eq_true,Bool.and_eq_true,beq_iff_eq,beq_iff_eq,beq_iff_eq] at e
   obtain⟨⟨⟨⟨⟨⟨e1,e2⟩,e3⟩,e4⟩,e5⟩,e6⟩,e7⟩:=e
   obtain⟨f,tf,h4⟩:=strV e4
   obtain⟨fl,tg,h5⟩:=intV e5
   obtain⟨b,h6⟩:=boolV e6
   obtain⟨tx,tt,h7⟩:=intV e7
   exact⟨_,vs,f,tf,fl,tg,b,tx,tt,g _ rfl,e1,rfl,e2,e3,h4,h5,h6,h7,by decide⟩
  | _=>exact ff e
theorem clo_one{scope:Scope}{env:Env}{x:PS}{c:Addr}(h1:∀ p∈scope.names,p.2=.free→p.1=x)(h2:(scope.names.filter (fun p=>p.2 == .free)).length=1)(hc:env.cells.lookup x=some c):closureFor scope env=pure [(x,c)]:=by
 have key:∀ (nms:List (PS × NameKind)) (acc:List (PS × Addr)),(∀ p∈nms,p.2=.free→p.1=x) →
   (forIn nms acc fun x cs=>(match x with
    | (name,kind)=>if (kind == NameKind.free)=true then (do
      let c ← cellOf env name
      pure (ForInStep.yield ((name,c) :: cs)))
     else pure (ForInStep.yield cs):Sem (ForInStep (List (PS × Addr)))))=pure (List.replicate (nms.filter (fun p=>p.2 == .free)).length (x,c) ++ acc):=by
  intro nms
  induction nms with
  | nil=>exact fun acc _=>rfl
  | cons p r ih =>
   intro acc hn
   obtain⟨y,k⟩:=p
   rw [List.forIn_cons]
   have hr:=fun acc=>ih acc fun p hp=>hn p (.tail _ hp)
   by_cases hk:k=.free
   ·subst hk
    obtain rfl:y=x:=hn (y,.free) (.head _) rfl
    have:cellOf env y=pure c:=by unfold cellOf;rw [hc]
    simp only [beq_self_eq_true,if_true,this,pure_bind,List.filter_cons,List.length_cons,hr]
    rw [List.replicate_succ',List.append_assoc];rfl
   ·have:(k == NameKind.free)=false:=beq_eq_false_iff_ne.mpr hk
    simp only [this,Bool.false_eq_true,if_false,pure_bind,List.filter_cons,hr]
 have:=key scope.names [] h1
 rw [h2] at this
 unfold closureFor
 show (forIn scope.names [] _ >>= fun cs=>pure cs)=_
 rw [this];rfl
theorem nm_n:nmS FDeed.name= "notes" ∧ nmS 231= "notes" := by decide +kernel
theorem nb_n:(("deed" : PS) == ("__debug__" : PS))=false:=by decide +kernel
section
variable{w:World}{A:Around}{s:Shared}
theorem noter_ok{la:Addr}(hroom:A.depth < recursionLimit)(st:(KF w.params).In s.heap)(lim:s.heap.NoLimit)(hP:s.heap.get? 1988=some (tabObj #[]))(stP:∀ b o,(KF w.params).lookup b=some o→b≠1988){R:Result→Shared→Prop}
  (q:∀ h' tk f l,CloR l f la→(∀ p∈l,h'.get? p.1=some p.2∧s.heap.objs.size≤p.1)→(∀ b o,b≠1988→s.heap.get? b=some o→h'.get? b=some o)→(∃ more,h'.get? 1988=some (tabObj more))→R (.ok (.ret (.ref f))) { s with heap:=h',toks:=tk }) :
  codeAny (model prog w) A (.call (.ref (ZZ.fnA 207)) ⟨[.ref la],[]⟩) R s:=by
 obtain⟨o,fdat,e1,e2,e3,e4,a1,a2,a3,a4,a5,a6,a7,pp,pl,a9⟩:=(pf_all w).2.2.2.of
 have nf:=n_facts w.params
 simp only [Bool.and_eq_true,beq_iff_eq] at nf
 obtain⟨⟨⟨f1,f2⟩,f3⟩,f4⟩:=nf
 have e4:fdat.scope=noterSc:=e4
 have ns:=noter_sc
 rw [Bool.and_eq_true,beq_iff_eq,beq_iff_eq] at ns
 have ds:=deed_sc
 simp only [Bool.and_eq_true,beq_iff_eq,List.all_eq_true,Bool.or_eq_true,bne_iff_ne,ne_eq] at ds
 have hcode:fdat.code=.ref 1992:=by
  unfold fdAt at f4
  rw [e1] at f4
  dsimp only at f4
  rw [e2] at f4
  exact Option.some.inj f4
 have hst:∀ {h:Heap},(∀ b o,s.heap.get? b=some o→h.get? b=some o)→∀ a ob,(KF w.params).lookup a=some ob→h.get? a=some ob:=fun k a ob e=>k _ _ (st a ob e)
 refine codeAny_call_cells hroom (st _ _ e1) e2 lim (codeRec_of st a7) e3 (bind_plain (vals:=[.ref la]) pp a9 (by simp)) a6 (fun x hx=>?_) (fun s1 X=>?_) a1 a2 a3
 ·obtain rfl:x=(nmS 231,.ref la):=List.mem_singleton.mp hx
  rw [nm_n.2,e4,noter_cells]
  exact .inr ⟨ns.1,by simp⟩
 generalize henv:callEnvC fdat s.heap.objs.size (ZZ.fnA 207)=env at X
 have es:EnvS env:=⟨by rw [← henv];exact a3,by rw [← henv];exact a4,by rw [← henv];exact a5,by rw [← henv];exact⟨_,rfl⟩⟩
 have esc:env.scope=noterSc:=by rw [← henv];exact e4
 have ecl:env.cells=[(("notes" : PS),s.heap.objs.size + 1)]:=by rw [← henv,← noter_cells,← e4];rfl
 have elo:env.locals=s.heap.objs.size:=by rw [← henv];rfl
 have eco:env.code=.ref 1992:=by rw [← henv];exact hcode
 have kn:env.kindOf "notes" = some .cell:=by show env.scope.names.lookup _=_;rw [esc];exact ns.1
 have kd:env.kindOf "deed" = some .local:=by show env.scope.names.lookup _=_;rw [esc];exact ns.2
 obtain⟨h1,tk,rfl,k1⟩:=X.done
 have cn:=X.cell "notes" (s.heap.objs.size + 1) (by rw [ecl];simp)
 have hcm:bindC env.kindOf (([231]:List Nat).map nmS |>.zip [Value.ref la]) (fun _=>none) "notes" = some (.ref la):=by
  show bindC env.kindOf [(nmS 231,.ref la)] (fun _=>none) "notes" = _
  unfold bindC bindC
  rw [nm_n.2,kn,if_neg (by decide),if_pos rfl]
 obtain⟨oc,gc,dc⟩:h1.IsCell (s.heap.objs.size + 1) (some (.ref la)):=by rw [← hcm];exact cn
 have ns1:=X.toInCall.ns
 generalize bindL env.kindOf (([231]:List Nat).map nmS |>.zip [Value.ref la]) (fun _=>none)=fm at ns1
 have hcl:closureFor deedSc env=pure [(("notes" : PS),s.heap.objs.size + 1)]:=clo_one (fun p hp e=>(ds.1 p hp).resolve_left fun z=>z e) ds.2 (by rw [ecl];simp)
 obtain⟨mg,hg,hmb⟩:=glb_of f1 (h:=h1) (a:=mainGlobals) (fun ob e=>hst k1 _ _ e)
 have run:∀ {params:Arguments} {body bd:List Stmt} {scope:Scope} {p p2 p3:Pos},bd=[.FunctionDef "deed" params body [] none [] scope none "deed" p,.Return (some (.Name "deed" p2)) p3]→params=MH.fnPar deedSt→body=MH.fnBody deedSt→scope=deedSc→params.defaults=[]→params.kw_defaults=[]→annTrees params none env=[] →
   wpAny (model prog w) (A.deeper env) (execs bd env) (fun f s2=>∃ v,f=.ret v∧R (.ok (.ret v)) s2) (fun _ _=>False) { s with heap:=h1,toks:=tk }:=by
  rintro params body bd scope p p2 p3 rfl rfl rfl rfl hd0 hk0 ha
  refine wpAny_execs_cons (nestDef_K hd0 hk0 ha (makeFunction_K (mg:=mg) hcl es.glob hg eco (cod_of f3 fun ob e=>hst k1 _ _ e) (k1 _ _ hP) trivial rfl (by decide) (mod_of f2 (fun ob e=>hst k1 _ _ e) hmb) fun c' ctv doc h2 tk2 hx hge hlt hrec htb=>?_))
  have lP:1988 < s.heap.objs.size:=Heap.lt_size hP
  have nL:env.locals≠1988:=by rw [elo];exact Nat.ne_of_gt lP
  have l1:s.heap.objs.size + 1 < h1.objs.size:=Heap.lt_size gc
  have keep2:∀ b o,b≠1988→h1.get? b=some o→h2.get? b=some o:=fun b o n g=>hx b o n g
  have pu:∀ {b o o'},h2.get? b=some o→(h2.push o').get? b=some o:=fun g=>Heap.get?_push_of_some _ g
  have ns2:=(ns1.extBut hx nL).push (fnMade "deed" (qualnameIn env "deed" "deed") (MH.fnPar deedSt) (MH.fnBody deedSt) deedSc [(("notes" : PS),s.heap.objs.size + 1)] doc ((mg "__name__").getD .none) c' ctv)
  refine wpAny_storeName_local (s:={ s with heap:=h2.push _,toks:=tk2 }) kd ns2 (fun h3 ns3 sb3=>?_) (by rw [es.kind];rfl)
  have k3:∀ b o,b≠env.locals→(h2.push (fnMade "deed" (qualnameIn env "deed" "deed") (MH.fnPar deedSt) (MH.fnBody deedSt) deedSc [(("notes" : PS),s.heap.objs.size + 1)] doc ((mg "__name__").getD .none) c' ctv)).get? b=some o→h3.get? b=some o:=fun b o n g=>(sb3.2 b n).trans g
  have ge2:s.heap.objs.size < c':=Nat.lt_of_lt_of_le (Nat.lt_of_succ_lt l1) hge
  have ge3:s.heap.objs.size < h2.objs.size:=Nat.lt_trans ge2 hlt
  obtain⟨c2,occ,vs,t,e2',goc,dvs,hvs⟩:=hrec
  cases e2'
  refine wpAny_execs_cons (wpAny_Return_some (name_ev es nb_n kd (by exact ns3) (if_pos rfl) ⟨_,rfl,?_⟩))
  have gf:=k3 _ _ (by rw [elo];exact Nat.ne_of_gt ge3) (Heap.get?_push_size h2 rfl)
  have g1:=k3 _ _ (by rw [elo];exact Nat.succ_ne_self _) (pu (keep2 _ _ (Nat.ne_of_gt (Nat.lt_succ_of_lt lP)) gc))
  have g2:=k3 _ _ (by rw [elo];exact Nat.ne_of_gt ge2) (pu goc)
  refine q h3 _ _ [(h2.objs.size,fnMade "deed" (qualnameIn env "deed" "deed") (MH.fnPar deedSt) (MH.fnBody deedSt) deedSc [(("notes" : PS),s.heap.objs.size + 1)] doc ((mg "__name__").getD .none) c' ctv),(s.heap.objs.size + 1,oc),(c',occ)] ⟨_,fnX "deed" (qualnameIn env "deed" "deed") (MH.fnPar deedSt) (MH.fnBody deedSt) deedSc [(("notes" : PS),s.heap.objs.size + 1)] .none .none doc ((mg "__name__").getD .none) none (.ref c') ctv,s.heap.objs.size + 1,oc,c',occ,vs,t,.head _,rfl,rfl,rfl,rfl,rfl,rfl,?_,.tail _ (.head _),dc,rfl,.tail _ (.tail _ (.head _)),dvs,hvs,rfl⟩ (fun p hp=>?_) (fun b o n g=>k3 b o (by rw [elo];exact Nat.ne_of_lt (Heap.lt_size g)) (pu (keep2 b o n (k1 b o g)))) ⟨_,k3 _ _ nL.symm (pu htb)⟩
  ·rw [nm_n.1]
  ·rcases List.mem_cons.mp hp with rfl | hp
   ·exact⟨gf,Nat.le_of_lt ge3⟩
   rcases List.mem_cons.mp hp with rfl | hp
   ·exact⟨g1,Nat.le_succ _⟩
   obtain rfl:=List.mem_singleton.mp hp
   exact⟨g2,Nat.le_of_lt ge2⟩
 refine wpAny_mono (run rfl rfl rfl rfl rfl rfl rfl) (fun f s2 z=>?_) fun _ _ z=>z.elim
 obtain⟨v,rfl,z⟩:=z
 exact z
end
end Mine
end
section
open PySem renaming Expr→PX,Str→PS
open PySem PySem.W PySem.Calls PyProof.Rows PySem.SeqAt
namespace Mine
section
variable{w:World}{γ:Gh}{s:Shared}{H:HT}{n N:Nat}{A:Around}{k kx:KV}
theorem prim_noter{vs:VL}{rvs:List Value}(a1:A.depth + 1 + 3 * N≤690)(R:Rel ZZ w γ H n s)(vr:VRs ZZ γ s.heap vs rvs)(q:prim207 vs H n k=true):codeAny (model prog w) A (.call (.ref (ZZ.fnA 207)) ⟨rvs,[]⟩) (CallR ZZ w γ s k kx) s:=by
 obtain⟨u,rv,rfl,rfl,v1,q⟩:=as1_ok q vr
 obtain⟨i,rfl,q⟩:=asRef_ok q
 obtain⟨d,hd,q⟩:=ntabAt_ok q
 obtain⟨d0,q⟩:=brecT q
 obtain rfl:=beqT d0
 obtain⟨la,rfl,oa⟩:=v1
 have ob:=R.obj 0
 rw [hd] at ob
 obtain⟨a,o,⟨o1,o2⟩,g,ea,⟨more,eo,hm⟩⟩:=ob
 have ea:a=1988:=ea
 subst ea
 have eo:o=tabObj more:=eo
 rw [hm rfl] at eo
 subst eo
 obtain⟨H',q,hH⟩:=setO_spec q
 have lt:0 < n:=by
  rcases Nat.lt_or_ge 0 n with z | z
  ·exact z
  ·rw [(R.fresh 0 z).1] at hd;cases hd
 refine codeAny_grow (noter_ok (by show A.depth < 1000;omega) R.st R.lim g (fun b ob e z=>by have:=R.stf b ob e;rw [z,o1] at this;cases this) fun h' tk f l hc hl keep hmore z1 z2=>?_)
 have kx:∀ {b ob x},s.heap.get? b=some ob→γ.own b=x→x≠.obj 0 5→h'.get? b=some ob:=fun g e f=>keep _ _ (fun z=>by rw [z,o1] at e;exact f e.symm) g
 have K:Kp NX γ s.heap γ h':=⟨z1,fun _ _=>rfl,fun b ob g f=>kx g f Ow.noConfusion,fun b ob g f _=>⟨ob.slots,kx g f Ow.noConfusion⟩,fun b ob g f _=>kx g f Ow.noConfusion,
  fun b ob fs g f d=>.same (kx g f Ow.noConfusion) d (TbOk.keep (fun b ob g f=>kx g f Ow.noConfusion) fun _ _=>rfl),fun _ _ e=>⟨e,rfl⟩,fun _ _ e=>e,fun _ _=>rfl,rfl,fun _ e=>e⟩
 have R':Rel ZZ w γ H' n { s with heap:=h',toks:=tk }:=R.upd K ⟨rfl,rfl⟩ 0 (fun b j p ne e=>by
   obtain⟨ob,g⟩:=R.there e
   rw [g]
   exact kx g e (fun z=>by cases z;exact ne rfl)) (fun _ _ _ _=>Iff.rfl) (by
   rw [hH,if_pos rfl]
   obtain⟨mo,hmo⟩:=hmore
   exact⟨1988,_,⟨o1,o2⟩,hmo,rfl,⟨mo,rfl,fun z=>nomatch z⟩⟩) (fun j ne=>by rw [hH,if_neg ne]) (fun b e=>Nat.lt_of_lt_of_le (R.bnd b e) z1) (Nat.le_refl n) lt (fun j e=>(R.fresh j e).2) (fun j e=>by
   have:=R.obi j e
   rw [hH]
   by_cases z:j=0
   ·rw [z] at this;rw [show H.get 0=.ntab 0 from hd] at this;cases this
   ·rw [if_neg z];exact this) id rfl z2
 exact⟨_,H',n,γ,q,R',K,.clo hc (fun p hp=>⟨(hl p hp).1,R.freshFree (hl p hp).2⟩) oa,⟨rfl,rfl,rfl⟩⟩
end
theorem prim_ok(w:World):PrimOk ZZ w:=fun hd A env N f vs H n k kx γ s rvs a1 a2 hh fr R vr q=>by
 rcases brec q with ⟨_,q⟩ | ⟨h,q⟩
 ·rcases brec q with ⟨_,q⟩ | ⟨h,q⟩
  ·rcases brec q with ⟨_,q⟩ | ⟨h,q⟩
   ·obtain⟨h,q⟩:=brecT q;obtain rfl:=beqT h;exact prim_noter a1 R vr q
   ·obtain rfl:=beqT h;exact prim_deck a1 hh R vr q
  ·obtain rfl:=beqT h;exact prim_draw a1 a2 hh R vr q
 ·obtain rfl:=beqT h;exact prim_intern a1 R vr q
set_option tactic.hygienic true in
theorem execs_app{env:Env}:∀ (a b:List Stmt),execs (a ++ b) env=(execs a env >>= fun f=>match f with | .next=>execs b env | f=>pure f)
 | [],b=>by rw [List.nil_append,execs_nil,pure_bind]
 | x :: r,b=>by
  rw [List.cons_append,execs_cons,execs_cons,bind_assoc]
  refine congrArg _ (funext fun f=>?_)
  cases f <;> first | (exact execs_app r b) | rw [pure_bind]
noncomputable def HT.idx:HT→List Nat
 | .nil=>[]
 | .node _ l r=>0 :: (l.idx.map fun i=>2 * i + 1) ++ r.idx.map fun i=>2 * i + 2
theorem HT.out:∀ {t:HT} {i:Nat},i∉t.idx→t.get i=.gone
 | .nil,i,_=>rfl
 | .node o l r,i,h=>by
  have h:i∉0 :: (l.idx.map fun i=>2 * i + 1) ++ r.idx.map fun i=>2 * i + 2:=h
  rw [HT.get_node]
  have h0:i≠0:=fun z=>h (by rw [z];exact .head _)
  rw [if_neg h0]
  by_cases q:i % 2=1
  ·rw [if_pos q]
   refine HT.out fun z=>h (.tail _ (List.mem_append_left _ (List.mem_map.mpr ⟨_,z,odd_at q⟩)))
  ·rw [if_neg q]
   refine HT.out fun z=>h (.tail _ (List.mem_append_right _ (List.mem_map.mpr ⟨_,z,even_at h0 q⟩)))
theorem hS_idx:(hS.idx.all fun i=>Nat.blt i nS)=true:=by kernel_rfl
theorem hS_out(i:Nat)(h:nS≤i):hS.get i=.gone:=HT.out fun z=>by
 have:=Nat.le_of_ble_eq_true (List.all_eq_true.mp hS_idx i z)
 exact absurd h (Nat.not_le.mpr this)
theorem hS_a:hS.get 2=.lst 1 []:=by kernel_rfl
theorem hS_b:hS.get 3=.lst 1 []:=by kernel_rfl
theorem subL_ok{l:FL}:∀ {m:FL},subL l m=true→∀ x v,m.look x=some v→(∀ y,y≠x∨True→True)→∃ u,l.look x=some u∧(u=v)
 | .nil,_,x,v,e,_=>by cases e
 | .cons k u r,h,x,v,e,_=>by
  have h:((match l.look k with | some w=>V.same w u | none=>false) && subL l r)=true:=h
  rw [Bool.and_eq_true] at h
  rw [FL.look_cons] at e
  by_cases g:k=x
  ·rw [if_pos g] at e;cases e;subst g
   cases q:l.look k with
   | none=>rw [q] at h;cases h.1
   | some w=>rw [q] at h;exact⟨w,rfl,V.same_eq h.1⟩
  ·rw [if_neg g] at e;exact subL_ok h.2 x v e fun _ _=>trivial
noncomputable def lawSt:Stmt:=MH.stm 149
noncomputable def lawSc:Scp:=(MH.fnScope lawSt).names
noncomputable def lawB:List Stmt:=MH.fnBody lawSt
structure LI(w:World)(s₁:Shared)(A:Around)(env:Env)(k:Nat)(l:FL)(H:HT)(n:Nat)(γ:Gh)(s:Shared):Prop where
 P:Pre ZZ w 60 false A env lawSc l H n γ s
 old:∀ b o,s₁.heap.get? b=some o→b≠1988→s.heap.get? b=some o∧γ.own b=.free
 fro:Fro s₁ s
 bs:γ.bs≤5000 * k
 pr:(γ.pre 1).length≤100 * k
 nt:γ.own 1988=.obj 0 5
section
variable{w:World}{s₁ s s':Shared}{A:Around}{env:Env}{k:Nat}{l l':FL}{H H':HT}{n n':Nat}{γ γ':Gh}{E:Value→Shared→Prop}
theorem LI.go(I:LI w s₁ A env k l H n γ s)(P:Pre ZZ w 60 false A env lawSc l' H' n' γ' s'){X:Addr→Prop}(K:Kp X γ s.heap γ' s'.heap)(F:Fro s s'):LI w s₁ A env k l' H' n' γ' s' :=
 ⟨P,fun b o e q=>⟨K.free _ _ (I.old b o e q).1 (I.old b o e q).2,K.ownFree (I.old b o e q).1 (I.old b o e q).2⟩,I.fro.trans F,by rw [K.bs];exact I.bs,by rw [K.pre 1 (by decide)];exact I.pr,(K.own _ (I.P.r.bnd _ (by rw [I.nt];exact Ow.noConfusion))).trans I.nt⟩
theorem LI.sub(I:LI w s₁ A env k l H n γ s)(h:∀ y v,l'.look y=some v→l.look y=some v):LI w s₁ A env k l' H n γ s :=
 ⟨⟨I.P.C,I.P.a,I.P.hd,I.P.es,I.P.ec,I.P.f,I.P.r,I.P.e.sub h⟩,I.old,I.fro,I.bs,I.pr,I.nt⟩
set_option tactic.hygienic true in
theorem LI.seg(I:LI w s₁ A env k l H n γ s){m:SM}{b:List Stmt}(y:SndS ZZ w lawSc m b){f:FL→HT→Nat→Bool}(q:m RS l H n (ksN f)=true) :
  wpAny (model prog w) A (execs b env) (fun fl s'=>fl=.next∧∃ l' H' n' γ',f l' H' n'=true∧LI w s₁ A env k l' H' n' γ' s'∧Kp (Xs env) γ s.heap γ' s'.heap) E s:=by
 refine wpAny_mono (y 60 false A env l H n _ γ s I.P q) (fun fl s' z=>?_) fun e s' z=>?_
 ·cases fl with
  | next =>
   obtain⟨l',H',n',γ',a,R,K,e,F⟩:=z
   exact⟨rfl,l',H',n',γ',a,I.go (I.P.goS K R e) K F,K⟩
  | brk=>obtain⟨_,_,_,_,a,_⟩:=z;cases a
  | ret v=>obtain⟨_,_,_,_,a,_⟩:=z;cases a
  | cont=>exact z.elim
 ·obtain⟨_,_,_,_,_,a,_⟩:=z;cases a
theorem EnvR.weak{zss:List (List Int)}{h:Heap}(x:EnvR ZZ γ h env l)(hl:∀ y v,l'.look y=some v→l.look y=some v∧V.kept hS v=true):EnvR ZZ (γ.weak hS nS zss) h env l':=by
 obtain⟨m,a,b,c,d⟩:=x
 have own:∀ {c:Addr},γ.own c=.env→(γ.weak hS nS zss).own c=.env:=fun e=>(weak_same (by rw [e];exact fun _ _=>Ow.noConfusion)).trans e
 refine ⟨m,a,own b,⟨fun x c' e=>?_,fun x e=>?_,c.inj⟩,fun y v q=>?_⟩
 ·obtain⟨oc,v,a,b,q⟩:=c.at_ x c' e
  exact⟨oc,v,a,b,q.imp own weak_free⟩
 ·obtain⟨c',a,b⟩:=c.has x e
  exact⟨c',a,own b⟩
 ·obtain⟨q1,q2⟩:=hl y v q
  obtain⟨hx,hd⟩:=d y v q1
  refine ⟨hx,?_⟩
  rcases hd with ⟨a,rv,b,c⟩ | ⟨a,c,oc,rv,b,d,f,g⟩
  ·exact .loc a rv b (c.map weak_tr (kept_of q2))
  ·exact .cel a c oc rv b d f (g.map weak_tr (kept_of q2))
theorem LI.weak{o:Nat}(So:hS.get o=.obar)(I:LI w s₁ A env k l H n γ s)(hk:k≤9)(hw:wk H=true)(hl:∀ y v,l'.look y=some v→l.look y=some v∧V.kept hS v=true) :
  ∃ zss,LI w s₁ A env (k + 1) l' hS nS (γ.weak hS nS zss) s:=by
 have hbs:=I.bs
 have hpr:=I.pr
 obtain⟨zss,R,hz⟩:=weaken hS_out hS_a hS_b So I.P.r hw (by omega) (by omega)
 refine ⟨zss,⟨I.P.C,I.P.a,⟨I.P.hd.1,.inl (I.P.hd.1 rfl)⟩,I.P.es,I.P.ec,?_,R,I.P.e.weak hl⟩,fun b ob e q=>⟨(I.old b ob e q).1,weak_free (I.old b ob e q).2⟩,I.fro,?_,?_,weak_obj.mpr ⟨I.nt,by kernel_rfl⟩⟩
 ·obtain⟨fe,outer,a,b,c,d⟩:=I.P.f
  exact⟨fe,outer,a,b,c,fun e he L hL=>(weak_same (by rw [d e he L hL];exact fun _ _=>Ow.noConfusion)).trans (d e he L hL)⟩
 ·rw [weak_bs];omega
 ·show (if (1:Nat)=1 then zss else if (1:Nat)=7 then List.replicate (γ.bs + 5000) [] else γ.pre 1).length≤_
  rw [if_pos rfl];omega
end
noncomputable def forT:Stmt→PX
 | .For t _ _ _ _=>t
 | _=>.Constant .none 0 default
noncomputable def forE:Stmt→PX
 | .For _ e _ _ _=>e
 | _=>.Constant .none 0 default
noncomputable def forB:Stmt→List Stmt
 | .For _ _ b _ _=>b
 | _=>[]
noncomputable def forP:Stmt→Pos
 | .For _ _ _ _ p=>p
 | _=>default
noncomputable def st5:Stmt:=lawB.getD 5 (.Pass default)
theorem law_split:lawB=lawB.take 5 ++ ([.For (forT st5) (forE st5) (forB st5) [] (forP st5)] ++ lawB.drop 6):=by kernel_rfl
noncomputable def rngB:EM:=Xa (Xg (.a (.blt (nat_lit 1)))) (Xc (Xi (nat_lit 2)) Xn)
theorem law_parts:[trSL (trS gT lawSc 30) (lawB.take 5),trSL (trS gT lawSc 30) ((forB st5).take 1),trSL (trS gT lawSc 30) ((forB st5).drop 1),trSL (trS gT lawSc 30) (lawB.drop 6)]=[some preB,some headB,some restB,some sufB]:=by kernel_rfl
theorem law_rng:trE gT lawSc 30 (forE st5)=some rngB:=by kernel_rfl
theorem law_tgt:trTg lawSc (forT st5)=some (.one (nat_lit 261)):=by kernel_rfl
theorem law_set:notSet (forE st5)=true:=by kernel_rfl
noncomputable def isRng(i:It)(z:Int):Bool:=match i with
 | .rng a b s=>a == z && b == 2 && s == 1
 | _=>false
noncomputable def kRng:KV:=fun v H n=>iteratorOf v H fun i=>isRng i 0 && wk H
theorem r_rng:rngB RS lS hS nS kRng (fun _ _ _=>false)=true:=by kernel_rfl
theorem lS_kept:FL.kept hS lS=true:=by kernel_rfl
theorem lab_kept(x y:Nat):FL.kept hS (lab x y)=true:=lS_kept
theorem hS_o:hS.get 5=.obar:=by kernel_rfl
noncomputable def ksT(j:Nat)(v:V)(i:It):Bool:=asInt v (fun z=>z == (j:Int)) && isRng i ((j:Int) + 1) && Nat.blt j 2
theorem nx0:nextOf (.rng ((0:Nat):Int) 2 1) hS (Nat.beq 0 2) (ksT 0)=true:=by kernel_rfl
theorem nx1:nextOf (.rng ((1:Nat):Int) 2 1) hS (Nat.beq 1 2) (ksT 1)=true:=by kernel_rfl
theorem nx2:nextOf (.rng ((2:Nat):Int) 2 1) hS (Nat.beq 2 2) (ksT 2)=true:=by kernel_rfl
theorem nx_ok:∀ j:Nat,j≤2→nextOf (.rng (j:Int) 2 1) hS (Nat.beq j 2) (ksT j)=true
 | 0,_=>nx0
 | 1,_=>nx1
 | 2,_=>nx2
 | _ + 3,h=>absurd h (by omega)
theorem bind_turn(v:V):bindT (.one (nat_lit 261)) v lS (fun l'=>subL l' lS)=true:=by kernel_rfl
theorem look_kept{l:FL}(h:subL l lS=true):∀ y v,lS.look y=some v→l.look y=some v∧V.kept hS v=true:=fun y v e=>by
 obtain⟨u,h1,rfl⟩:=subL_ok h y v e fun _ _=>trivial
 exact⟨h1,kept_look lS_kept e⟩
section
variable{w:World}{s₁ s s':Shared}{A:Around}{env:Env}{k:Nat}{l l':FL}{H H':HT}{n n':Nat}{γ γ':Gh}{E:Value→Shared→Prop}
theorem snd_pre(w:World):SndS ZZ w lawSc preB (lawB.take 5):=trBody w (List.cons.inj law_parts).1
theorem snd_head(w:World):SndS ZZ w lawSc headB ((forB st5).take 1):=trBody w (List.cons.inj (List.cons.inj law_parts).2).1
theorem snd_rest(w:World):SndS ZZ w lawSc restB ((forB st5).drop 1):=trBody w (List.cons.inj (List.cons.inj (List.cons.inj law_parts).2).2).1
theorem snd_suf(w:World):SndS ZZ w lawSc sufB (lawB.drop 6):=trBody w (List.cons.inj (List.cons.inj (List.cons.inj (List.cons.inj law_parts).2).2).2).1
theorem snd_rng(w:World):SndE ZZ w lawSc rngB (forE st5):=trE_ok (kb_ok w).toKA (GOk_gT w) 30 lawSc _ _ law_rng
theorem tgt_ok:TgtE lawSc (.one (nat_lit 261)) (forT st5):=trTg_ok law_tgt
theorem toS_ok{l:FL}{H:HT}{n:Nat}(h:toS l H n=true):subL l lS=true∧wk H=true:=by
 have h:(subL l lS && wk H)=true:=h
 rwa [Bool.and_eq_true] at h
theorem asInt_at{v:V}{k:Int→Bool}(h:asInt v k=true):∃ z,v=.a (.int z)∧k z=true:=by
 cases v with
 | a c=>cases c with | int z=>exact⟨z,rfl,h⟩ | _=>cases h
 | _=>cases h
theorem toH_ok{l:FL}{H:HT}{n:Nat}(h:toH l H n=true):∃ x y,x≤4∧y≤4∧(∀ z v,(lab x y).look z=some v→l.look z=some v∧V.kept hS v=true)∧wk H=true:=by
 have h:(optK (l.look (nat_lit 230)) (fun v=>asNat v fun x=>Nat.ble x 4) && optK (l.look (nat_lit 250)) (fun v=>asNat v fun x=>Nat.ble x 4) && subL l lS && wk H)=true:=h
 rw [Bool.and_eq_true,Bool.and_eq_true,Bool.and_eq_true] at h
 obtain⟨⟨⟨h1,h2⟩,h3⟩,h4⟩:=h
 have nat:∀ {o:Option V},optK o (fun v=>asNat v fun x=>Nat.ble x 4)=true→∃ x:Nat,x≤4∧o=some (.a (.int (.ofNat x))):=fun h=>by
  obtain⟨v,rfl,e⟩:=optK_some h
  obtain⟨z,rfl,e⟩:=asInt_at e
  cases z with
  | ofNat x=>exact⟨x,Nat.le_of_ble_eq_true e,rfl⟩
  | negSucc _=>cases e
 obtain⟨x,hx,ex⟩:=nat h1
 obtain⟨y,hy,ey⟩:=nat h2
 refine ⟨x,y,hx,hy,fun z v e=>⟨?_,kept_look (lab_kept x y) e⟩,h4⟩
 unfold lab at e
 rw [FL.look_cons,FL.look_cons] at e
 by_cases g:nat_lit 230=z
 ·rw [if_pos g] at e;rw [← e,← g];exact ex
 ·by_cases g':nat_lit 250=z
  ·rw [if_neg g,if_pos g'] at e;rw [← e,← g'];exact ey
  ·rw [if_neg g,if_neg g'] at e;exact (look_kept h3 z v e).1
set_option tactic.hygienic true in
theorem LI.turn(I:LI w s₁ A env k lS hS nS γ s)(hk:k≤7){it:Addr}{i:It}(ow:γ.own it=.it)(ir:ItR ZZ γ s.heap i it)(hi:∃ a b c,i=.rng a b c) :
  wpAny (model prog w) A (execs (forB st5) env) (fun fl s'=>fl=.next∧∃ γ',LI w s₁ A env (k + 2) lS hS nS γ' s'∧γ'.own it=.it∧ItR ZZ γ' s'.heap i it) E s:=by
 have keep:∀ {k:Nat} {l:FL} {H:HT} {n:Nat} {γ γ':Gh} {s s':Shared},LI w s₁ A env k l H n γ s→Kp (Xs env) γ s.heap γ' s'.heap→γ.own it=.it→ItR ZZ γ s.heap i it→γ'.own it=.it∧ItR ZZ γ' s'.heap i it:=fun I K ow ir =>
  ⟨(K.own _ (I.P.r.bnd _ (by rw [ow];exact Ow.noConfusion))).trans ow,ir.mono K I.P.r.bnd ow (I.P.e.notIt (I:=fun b=>b=it) (fun b hb=>by rw [hb];exact ow) it rfl)⟩
 have weak:∀ {γ:Gh} {h:Heap} {zss:List (List Int)},γ.own it=.it→ItR ZZ γ h i it→(γ.weak hS nS zss).own it=.it∧ItR ZZ (γ.weak hS nS zss) h i it:=fun ow ir=>by
  obtain⟨a,b,c,rfl⟩:=hi
  refine ⟨(weak_same (by rw [ow];exact fun _ _=>Ow.noConfusion)).trans ow,?_⟩
  cases ir with | rng g r=>exact .rng g r
 rw [show forB st5=(forB st5).take 1 ++ (forB st5).drop 1 from (List.take_append_drop 1 _).symm,execs_app]
 refine wpAny_bind (wpAny_mono (I.seg (snd_head w) r_head) (fun fl s2 z=>?_) fun _ _ z=>z)
 obtain⟨rfl,l2,H2,n2,γ2,a2,I2,K2⟩:=z
 obtain⟨ow2,ir2⟩:=keep I K2 ow ir
 obtain⟨x,y,hx,hy,hl,hw⟩:=toH_ok a2
 obtain⟨z3,I3⟩:=I2.weak hS_o (by omega) hw hl
 obtain⟨ow3,ir3⟩:=weak (zss:=z3) ow2 ir2
 refine wpAny_mono (I3.seg (snd_rest w) (rest_run x y hx hy)) (fun fl s4 z=>?_) fun _ _ z=>z
 obtain⟨rfl,l4,H4,n4,γ4,a4,I4,K4⟩:=z
 obtain⟨ow4,ir4⟩:=keep I3 K4 ow3 ir3
 obtain⟨h1,h2⟩:=toS_ok a4
 obtain⟨z5,I5⟩:=I4.weak hS_o (by omega) h2 (look_kept h1)
 obtain⟨ow5,ir5⟩:=weak (zss:=z5) ow4 ir4
 exact⟨rfl,_,I5,ow5,ir5⟩
theorem isRng_ok{i:It}{z:Int}(h:isRng i z=true):i=.rng z 2 1:=by
 cases i with
 | rng a b c =>
  have h:(a == z && b == 2 && c == 1)=true:=h
  rw [Bool.and_eq_true,Bool.and_eq_true,beq_iff_eq,beq_iff_eq,beq_iff_eq] at h
  obtain⟨⟨rfl,rfl⟩,rfl⟩:=h
  rfl
 | _=>cases h
theorem ksT_ok{j:Nat}{v:V}{i:It}(h:ksT j v i=true):v=.a (.int j)∧i=.rng ((j + 1:Nat):Int) 2 1∧j < 2:=by
 unfold ksT at h
 rw [Bool.and_eq_true,Bool.and_eq_true] at h
 obtain⟨z,rfl,h1⟩:=asInt_at h.1.1
 exact⟨by rw [eq_of_beq h1],isRng_ok h.1.2,Nat.le_of_ble_eq_true h.2⟩
set_option tactic.hygienic true in
theorem LI.loop(I:LI w s₁ A env 1 lS hS nS γ s):wpAny (model prog w) A (exec (.For (forT st5) (forE st5) (forB st5) [] (forP st5)) env) (fun fl s'=>fl=.next∧∃ γ',LI w s₁ A env 6 lS hS nS γ' s') E s:=by
 refine wpAny_For (wpAny_mono ((snd_rng w).at I.P r_rng) (fun rv s1 z=>?_) fun e s1 z=>?_) (fun x=>set_no law_set _ x)
 ·obtain⟨v,H1,n1,γ1,a1,R1,K1,vr,F1⟩:=z
  have P1:=I.P.go K1 R1
  have I1:=I.go P1 K1 F1
  refine wpAny_mono (iter_ok P1 a1 vr) (fun itv s2 z=>?_) fun _ _ z=>z
  obtain⟨i,it,γ2,rfl,q2,S2,ow,le,ir⟩:=z
  rw [Bool.and_eq_true] at q2
  obtain rfl:=isRng_ok q2.1
  have I2:=I1.go (P1.sm S2) S2.K S2.fro
  obtain⟨zss,I3⟩:=I2.weak hS_o (by decide) q2.2 (fun y v e=>⟨e,kept_look lS_kept e⟩)
  have ow3:(γ2.weak hS nS zss).own it=.it:=(weak_same (by rw [ow];exact fun _ _=>Ow.noConfusion)).trans ow
  have ir3:ItR ZZ (γ2.weak hS nS zss) s2.heap (.rng ((0:Nat):Int) 2 1) it:=by cases ir with | rng g r=>exact .rng g r
  refine codeAny_forLoop_any (fun m s=>∃ j γ,m=2 - j∧j≤2∧LI w s₁ A env (2 + 2 * j) lS hS nS γ s∧γ.own it=.it∧ItR ZZ γ s.heap (.rng ((j:Nat):Int) 2 1) it) (fun m s3 I0=>?_) 2 ⟨0,_,rfl,by decide,I3,ow3,ir3⟩
  obtain⟨j,γ3,rfl,hj,I4,ow4,ir4⟩:=I0
  refine wpAny_mono ((itOK tgt_ok).turn I4.P.hd I4.P.r (fun b hb=>by subst hb;exact ow4) ir4 (nx_ok j hj)) (fun r s5 z=>?_) fun _ _ z=>z
  cases r with
  | none =>
   obtain⟨S5,q5⟩:=z
   have hj2:j=2:=Nat.eq_of_beq_eq_true q5
   subst hj2
   refine wpAny_execs_nil ?_
   exact⟨rfl,_,I4.go (I4.P.smI S5 fun b hb=>by subst hb;exact ow4) S5.K S5.fro⟩
  | some rv =>
   refine wpAny_mono z (fun _ s6 z=>?_) fun _ _ z=>z
   obtain⟨S6,v,i',q6,vr6,ir6⟩:=z
   obtain⟨rfl,rfl,lt⟩:=ksT_ok q6
   have P6:=I4.P.smI S6 fun b hb=>by subst hb;exact ow4
   have I6:=I4.go P6 S6.K S6.fro
   have ow6:γ3.own it=.it:=ow4
   refine wpAny_mono (assign_ok tgt_ok P6.es P6.ec P6.hd P6.r P6.e vr6 (bind_turn _)) (fun _ s7 z=>?_) fun _ _ z=>z
   obtain⟨l7,q7,R7,K7,e7,F7⟩:=z
   have I7:=(I6.go (P6.goS K7 R7 e7) K7 F7).sub fun y v e=>(look_kept q7 y v e).1
   have nx:¬ Xs env it:=P6.e.notIt (I:=fun b=>b=it) (fun b hb=>by rw [hb];exact ow6) it rfl
   have ir7:=ir6.mono K7 P6.r.bnd ow6 nx
   refine wpAny_mono (I7.turn (Nat.le_trans (Nat.add_le_add_left (Nat.mul_le_mul_left 2 (Nat.le_of_lt_succ lt)) 2) (by decide)) ow6 ir7 ⟨_,_,_,rfl⟩) (fun f s8 z=>?_) fun _ _ z=>z
   obtain⟨rfl,γ8,I8,ow8,ir8⟩:=z
   exact⟨2 - (j + 1),Nat.sub_lt_sub_left lt (Nat.lt_succ_self j),j + 1,γ8,rfl,lt,I8,ow8,ir8⟩
 ·obtain⟨_,_,_,_,a,_⟩:=z;cases a
theorem nt_ok(R:Rel ZZ w γ H n s)(e:γ.own 1988=.obj 0 5):∃ more,s.heap.get? 1988=some ⟨.none,none,.fields more,#[]⟩:=by
 have x:=R.obj 0
 cases g:H.get 0 with
 | gone=>rw [g] at x;exact absurd e (x _ _)
 | inst c fs=>rw [g] at x;obtain⟨a,d,m,cd,_,_,_,⟨o1,o2,o3⟩,_⟩:=x;rcases o3 _ _ e with rfl | rfl <;> first | cases o1.symm.trans e | cases o2.symm.trans e
 | lst p vs=>rw [g] at x;obtain⟨a,_,_,_,⟨o1,o2⟩,_⟩:=x;obtain rfl:=o2 _ _ e;rw [o1] at e;cases e
 | dic k fs=>rw [g] at x;obtain⟨a,_,⟨o1,o2⟩,_⟩:=x;obtain rfl:=o2 _ _ e;rw [o1] at e;cases e
 | obar=>rw [g] at x;obtain⟨a,d,lr,ld,_,_,_,_,⟨o1,o2,o3,o4,o5⟩,_⟩:=x;rcases o5 _ _ e with rfl | rfl | rfl | rfl <;> first | cases o1.symm.trans e | cases o2.symm.trans e | cases o3.symm.trans e | cases o4.symm.trans e
 | sdic _ _=>rw [g] at x;obtain⟨a,_,_,⟨o1,o2⟩,_⟩:=x;obtain rfl:=o2 _ _ e;rw [o1] at e;cases e
 | deck=>rw [g] at x;obtain⟨a,c,d,⟨o1,o2,o3,o4⟩,_⟩:=x;rcases o4 _ _ e with rfl | rfl | rfl <;> first | cases o1.symm.trans e | cases o2.symm.trans e | cases o3.symm.trans e
 | ntab d =>
  rw [g] at x
  obtain⟨a,ob,⟨o1,o2⟩,g1,_,more,rfl,_⟩:=x
  obtain rfl:=o2 _ _ e
  exact⟨more,g1⟩
set_option tactic.hygienic true in
theorem law_body(I:LI w s₁ A env 0 l0 h0 1 γ s):wpAny (model prog w) A (execs lawB env) (fun fl s'=>fl=.ret (.bool true)∧(∀ b o,s₁.heap.get? b=some o→b≠1988→s'.heap.get? b=some o)∧(∃ more,s'.heap.get? 1988=some ⟨.none,none,.fields more,#[]⟩)∧Fro s₁ s'∧s'.gens=#[]) E s:=by
 rw [law_split,execs_app]
 refine wpAny_bind (wpAny_mono (I.seg (snd_pre w) r_pre) (fun fl s2 z=>?_) fun _ _ z=>z)
 obtain⟨rfl,l2,H2,n2,γ2,a2,I2,K2⟩:=z
 obtain⟨h1,h2⟩:=toS_ok a2
 obtain⟨z3,I3⟩:=I2.weak hS_o (by decide) h2 (look_kept h1)
 refine wpAny_execs_cons (wpAny_mono I3.loop (fun fl s4 z=>?_) fun _ _ z=>z)
 obtain⟨rfl,γ4,I4⟩:=z
 refine wpAny_mono (snd_suf w 60 false A env lS hS nS _ γ4 s4 I4.P r_suf) (fun fl s5 z=>?_) fun e s5 z=>?_
 ·cases fl with
  | ret rv =>
   obtain⟨v,H5,n5,γ5,a5,R5,K5,vr,_,_,F5⟩:=z
   obtain⟨b,rfl,_,rfl⟩:=asBool_ok a5 vr
   exact⟨rfl,fun b o e q=>K5.free _ _ (I4.old b o e q).1 (I4.old b o e q).2,nt_ok R5 ((K5.own _ (I4.P.r.bnd _ (by rw [I4.nt];exact Ow.noConfusion))).trans I4.nt),I4.fro.trans F5,R5.gens⟩
  | next=>obtain⟨_,_,_,_,a,_⟩:=z;cases a
  | brk=>obtain⟨_,_,_,_,a,_⟩:=z;cases a
  | cont=>exact z.elim
 ·obtain⟨_,_,_,_,_,a,_⟩:=z;cases a
end
structure Top0(w:World)(s:Shared):Prop where
 st:(KF w.params).In s.heap
 sy:∀ i∈[(98,97,0),(101,100,1)],s.heap.get? i.1=some ⟨.ref 92,some i.2.1,.plain,#[]⟩∧∃ m t₁ t₂,s.heap.Ns i.2.1 m∧m (nmS nName)=some (.str (nmS i.2.2) t₁)∧m (nmS nNumber)=some (.int (i.2.2:Nat) t₂)∧∀ y v,m y=some v→y=nmS nName∨y=nmS nNumber
 nt:s.heap.get? 1988=some ⟨.none,none,.fields #[],#[]⟩
 lim:s.heap.NoLimit
 gens:s.gens=#[]
 tkn:s.toks≠0
noncomputable def g0:Gh:=⟨fun b=>if b=1988 then .obj 0 5 else .free,fun s=>if s=0 then some 98 else if s=1 then some 101 else none,id,fun _=>none,fun _=>[],.none,none⟩
theorem kAds_no:kAds.contains 1988=false:=by decide +kernel
theorem lookup_map{f:Addr→Obj}:∀ {l:List Addr} {a:Addr} {o:Obj},(l.map fun a=>(a,f a)).lookup a=some o→a∈l∧o=f a
 | [],_,_,h=>by cases h
 | b :: r,a,o,h=>by
  rw [List.map_cons,List.lookup_cons] at h
  cases q:a == b with
  | true =>
   rw [q] at h
   have h:=Option.some.inj h
   rw [eq_of_beq q];exact⟨.head _,h.symm⟩
  | false=>rw [q] at h;exact⟨.tail _ (lookup_map h).1,(lookup_map h).2⟩
theorem KF_mem{P:Params}{a:Addr}{o:Obj}(e:(KF P).lookup a=some o):a∈kAds∧o=((MH.T50 P).get a).getD default:=lookup_map (f:=fun a=>((MH.T50 P).get a).getD default) e
theorem KF_ne{P:Params}{a:Addr}{o:Obj}(e:(KF P).lookup a=some o):a≠1988:=fun z=>by
 have:=kAds_no
 rw [← Bool.not_eq_true,List.contains_iff_mem] at this
 exact this (z ▸ (KF_mem e).1)
theorem g0_free{a:Addr}(h:a≠1988):g0.own a=.free:=by
 show (if a=1988 then Ow.obj 0 5 else .free)=_
 rw [if_neg h]
theorem g0_nt:g0.own 1988=.obj 0 5:=by
 show (if (1988:Nat)=1988 then Ow.obj 0 5 else .free)=_
 rw [if_pos rfl]
theorem rel0{w:World}{s:Shared}(T:Top0 w s):Rel ZZ w g0 h0 1 s where
 st:=T.st
 stf a o e:=g0_free (KF_ne e)
 bnd b q:=by
  by_cases h:b=1988
  ·rw [h];exact Heap.lt_size T.nt
  ·exact absurd (g0_free h) q
 obj i:=by
  have own:∀ b j p,g0.own b=.obj j p→b=1988∧j=0∧p=5:=fun b j p e=>by
   by_cases h:b=1988
   ·subst h;rw [g0_nt] at e;cases e;exact⟨rfl,rfl,rfl⟩
   ·rw [g0_free h] at e;cases e
  unfold h0
  rw [HT.get_node]
  by_cases h:i=0
  ·rw [if_pos h,h]
   exact⟨1988,_,⟨g0_nt,fun b p e=>(own b 0 p e).1⟩,T.nt,rfl,#[],rfl,fun _=>rfl⟩
  ·rw [if_neg h]
   have:(if i % 2=1 then HT.nil.get (i / 2) else HT.nil.get (i / 2 - 1))=.gone:=by split <;> rfl
   rw [this]
   exact fun b p e=>h (own b i p e).2.1
 fresh i hi:=by
  refine ⟨?_,rfl⟩
  unfold h0
  rw [HT.get_node,if_neg (by omega)]
  split <;> rfl
 sym:=by
  have two:∀ s a,g0.sg s=some a→(s=0∧a=98)∨(s=1∧a=101):=fun s a e=>by
   have e:(if s=0 then some 98 else if s=1 then some 101 else none)=some a:=e
   by_cases h:s=0
   ·rw [if_pos h] at e;cases e;exact .inl ⟨h,rfl⟩
   ·rw [if_neg h] at e
    by_cases h:s=1
    ·rw [if_pos h] at e;cases e;exact .inr ⟨h,rfl⟩
    ·rw [if_neg h] at e;cases e
  have ns:∀ {h:Heap} {d:Addr} {m},h.Ns d m→d≠1988→g0.own d=.free:=fun _ h=>g0_free h
  refine ⟨fun s' a e=>?_,fun s' t a b e1 e2 e3=>e3,fun s' t a e1 e2=>?_,⟨rfl,rfl⟩,⟨rfl,rfl⟩⟩
  ·have lt:(1:Nat) < names.length:=by decide +kernel
   rcases two s' a e with ⟨rfl,rfl⟩ | ⟨rfl,rfl⟩
   ·obtain⟨x1,m,t1,t2,x2,x3,x4,x5⟩:=T.sy (98,97,0) (.head _)
    exact⟨Nat.lt_trans (by decide) lt,g0_free (by decide),97,m,t1,t2,x1,g0_free (by decide),x2,x3,x4,x5⟩
   ·obtain⟨x1,m,t1,t2,x2,x3,x4,x5⟩:=T.sy (101,100,1) (.tail _ (.head _))
    exact⟨lt,g0_free (by decide),100,m,t1,t2,x1,g0_free (by decide),x2,x3,x4,x5⟩
  ·rcases two s' a e1 with ⟨rfl,rfl⟩ | ⟨rfl,rfl⟩ <;> rcases two t _ e2 with ⟨rfl,h⟩ | ⟨rfl,h⟩ <;> first | rfl | cases h
 obi i e:=by cases e
 sym0 _ i a e:=by
  have e:(if i=0 then some 98 else if i=1 then some 101 else none)=some a:=e
  by_cases h:i=0
  ·exact .inl h
  ·rw [if_neg h] at e
   by_cases h:i=1
   ·exact .inr h
   ·rw [if_neg h] at e;cases e
 lim:=T.lim
 limf:=g0_free (by decide)
 gens:=T.gens
 tkn:=T.tkn
theorem law_obj(P:Params):(KF P).lookup 2050=some (xo P 2050):=by kernel_rfl
theorem law_dat(P:Params):(xo P 2050).data=.func (xfD (xo P 2050)):=by kernel_rfl
theorem law_bod(P:Params):(xfD (xo P 2050)).body=.stmts lawB:=by kernel_rfl
theorem law_sc(P:Params):(xfD (xo P 2050)).scope=MH.fnScope lawSt:=by kernel_rfl
theorem law_ok(P:Params):fnOk P 216 F216=true:=TR.all_of (f_fn P) (i:=216) (a:=F216) (by kernel_rfl)
theorem law_fa:ZZ.fnA 216=2050:=by kernel_rfl
theorem law_callG{w:World}(prm:PrimOk ZZ w){s:Shared}(T:Top0 w s){a:Addr}{ws:Array Value}{n:Nat}(hs:s.heap.get? a=some ⟨.type "list",none,.seq ws n,#[]⟩)(hz:ws.size≤63)(hi:∀ v∈ws,∃ z t,v=.int z t)(ha:a≠1988){E:Value→Shared→Prop}
  {o:Obj} {fdat:FuncData} (ho:s.heap.get? 2050=some o) (hdat:o.data=.func fdat) (hbody:fdat.body=.stmts lawB) (hsc:fdat.scope=MH.fnScope lawSt) (a1:fdat.scope.isCoroutine=false) (a2:fdat.scope.isGenerator=false) (a3:fdat.scope.kind=.function) (a4:fdat.globals=mainGlobals) (a5:fdat.builtins=builtinsNs) (a6:fdat.closure=[])
  (a7:s.heap.CodeRec fdat.code fdat.qualname) (pp:PlainP fdat [nmS 256]) (pl:fdat.scope.names.lookup (nmS 256)=some .local∨fdat.scope.names.lookup (nmS 256)=some .cell) (hd:fdat.defaults=.none) :
  wpAny (model prog w) callerA (PySem.call (.ref 2050) [.ref a]) (fun v s'=>v=.bool true∧(∀ b o,s.heap.get? b=some o→b≠1988→s'.heap.get? b=some o)∧(∃ more,s'.heap.get? 1988=some ⟨.none,none,.fields more,#[]⟩)∧Fro s s'∧s'.gens=#[]) E s:=by
 have R:=rel0 T
 have C:SndC ZZ w 60:=sndC (all_ok w prm) 60
 have vs:VR ZZ g0 s.heap (.a .scr) (.ref a):=.scr hs (g0_free ha) hz hi
 refine wpAny_call (codeAny_call_function (by decide) ho hdat a1 a2 hbody a7 ((BindsTo.of_eq (bind_plain (vals:=[.ref a]) pp hd (by rfl))) _ _ _ _ ?_))
 rw [a4,a5,a6]
 refine newEnv_ok (l:=l0) (l0:=.nil) R a3 ⟨(fun _ h=>nomatch h),.nil,(fun _ h=>nomatch h)⟩ (fun p hp=>?_) (.cons (by decide +kernel) vs rfl .nil) (fun x v e=>by cases e) fun env s1 γ1 l1 e1 e2 es hl R1 K1 en1 xs oL fresh F1=>⟨R1.lim,codeAny_func ?_⟩
 ·obtain rfl:=List.mem_singleton.mp hp
  exact pl
 have P:Pre ZZ w 60 false (callerA.deeper env) env lawSc l0 h0 1 γ1 s1:=by
  refine ⟨C,deep_ok (by decide) (by decide),⟨fun _=>rfl,.inl rfl⟩,es,fun x kk h1 _=>?_,?_,R1,en1.sub fun y v e=>by rw [hl,e];rfl⟩
  ·show env.scope.names.lookup x=some kk
   rw [e1,hsc];exact h1
  ·refine ⟨env,[],rfl,rfl,⟨by rw [es.kind];decide,?_,trivial⟩,fun e he L hL=>?_⟩
   ·obtain⟨mm,⟨od,e,ep,g,d,_⟩,_⟩:=en1
    exact⟨_,od,e2,by simp [Heap.get?],g,fun vs z=>by rw [d] at z;cases z⟩
   ·obtain rfl:=List.mem_singleton.mp he
    rw [e2] at hL;cases hL;exact oL
 have I:LI w s (callerA.deeper env) env 0 l0 h0 1 γ1 s1 :=
  ⟨P,fun b o e q=>⟨K1.free _ _ e (g0_free q),K1.ownFree e (g0_free q)⟩,F1,by rw [K1.bs];decide,by rw [K1.pre 1 (by decide)];decide,(K1.own _ (Heap.lt_size T.nt)).trans g0_nt⟩
 refine wpAny_mono (law_body I (E:=fun _ _=>False)) (fun fl s2 z=>?_) fun _ _ z=>z.elim
 obtain⟨rfl,z1,z2,z3,z4⟩:=z
 exact⟨rfl,z1,z2,z3,z4⟩
theorem law_call{w:World}(prm:PrimOk ZZ w){s:Shared}(T:Top0 w s){a:Addr}{ws:Array Value}{n:Nat}(hs:s.heap.get? a=some ⟨.type "list",none,.seq ws n,#[]⟩)(hz:ws.size≤63)(hi:∀ v∈ws,∃ z t,v=.int z t)(ha:a≠1988){E:Value→Shared→Prop} :
  wpAny (model prog w) callerA (PySem.call (.ref 2050) [.ref a]) (fun v s'=>v=.bool true∧(∀ b o,s.heap.get? b=some o→b≠1988→s'.heap.get? b=some o)∧(∃ more,s'.heap.get? 1988=some ⟨.none,none,.fields more,#[]⟩)∧Fro s s'∧s'.gens=#[]) E s:=by
 have f:=law_ok w.params
 have hd:=law_dat w.params
 have hb:=law_bod w.params
 have hc:=law_sc w.params
 have hl:=law_obj w.params
 have hf:fdAt w.params 216=some (xfD (xo w.params 2050)):=by
  unfold fdAt
  rw [law_fa,hl]
  dsimp only
  rw [hd]
 unfold fnOk at f
 rw [hf] at f
 generalize xo w.params 2050=o at hd hb hc hl f
 generalize xfD o=fdat at hd hb hc f
 simp only [Bool.and_eq_true,Bool.not_eq_true',beq_iff_eq,List.isEmpty_iff] at f
 obtain⟨⟨⟨⟨⟨⟨⟨⟨a1,a2⟩,a3⟩,a4⟩,a5⟩,a6⟩,a7⟩,a8⟩,a9⟩:=f
 obtain⟨pp,pl⟩:=parsOk_ok a8
 exact law_callG prm T hs hz hi ha (T.st _ _ hl) hd hb hc a1 a2 a3 a4 a5 a6 (codeRec_of T.st a7) pp (pl 256 (.head _)).2 (eq_of_beq a9)
noncomputable def live(P:Params)(a:Addr):Bool:=Nat.blt a 2051 && (match (MH.T50 P).get a with | some o=>(match o.data with | .freed=>false | _=>true) | none=>false)
theorem hf_live(P:Params):((kAds ++ [98,97,101,100,1988,2,1992]).all (live P))=true:=by kernel_rfl
theorem hf_get{P:Params}{a:Addr}(h:a∈kAds ++ [98,97,101,100,1988,2,1992]):(MH.HF P).get? a=some (xo P a):=by
 have al:=List.all_eq_true.mp (hf_live P) a h
 unfold live at al
 rw [Bool.and_eq_true] at al
 unfold MH.HF xo
 generalize MH.T50 P=T at al ⊢
 cases g:T.get a with
 | none=>rw [g] at al;cases al.2
 | some o =>
  rw [g] at al
  rw [abs_get (Nat.le_of_ble_eq_true al.1) g]
  obtain⟨oc,od,oda,osl⟩:=o
  cases oda <;> first | rfl | cases al.2
noncomputable def hh(es:Array DictEntry)(i:Nat):Int:=((es.toList[i]?).map (·.hash)).getD 0
theorem sy_obj(P:Params):[xo P 98,xo P 101,xo P 1988]=[⟨.ref 92,some 97,.plain,#[]⟩,⟨.ref 92,some 100,.plain,#[]⟩,⟨.none,none,.fields #[],#[]⟩]:=by kernel_rfl
theorem sy_ns(P:Params):[(xo P 97).data,(xo P 100).data]=[.dict #[⟨hh (xdE (xo P 97)) 0,.str (nmS nNumber) 310,.int 0 304⟩,⟨hh (xdE (xo P 97)) 1,.str (nmS nName) 312,.str (nmS 0) 305⟩] 2,.dict #[⟨hh (xdE (xo P 100)) 0,.str (nmS nNumber) 320,.int 1 314⟩,⟨hh (xdE (xo P 100)) 1,.str (nmS nName) 322,.str (nmS 1) 315⟩] 2]:=by kernel_rfl
theorem st_dat(P:Params):(xo P 2).data=.dict (xdE (xo P 2)) (xdN (xo P 2)):=by kernel_rfl
theorem st_chk(P:Params):((xdE (xo P 2)).toList.all (fun e=>match e.key with | .str _ _=>true | _=>false) && nsFind (xdE (xo P 2)) "sys.recursionlimit" == none)=true:=by kernel_rfl
theorem law_glo(P:Params):nsIn (KF P) mainGlobals "law" = some (some (.ref 2050)):=by kernel_rfl
theorem tab_obj(P:Params):((xo P 1992).cls == .type "code" && (match (xo P 1992).data with | .fields vs=>vs[11]? == some (.ref 1988) | _=>false))=true:=by kernel_rfl
theorem ns_two{h:Heap}{d:Addr}{o:Obj}{h1 h2:Int}{x1 x2:PS}{t1 t2:Tok}{v1 v2:Value}{ep:Nat}(ho:h.get? d=some o)(hd:o.data=.dict #[⟨h1,.str x1 t1,v1⟩,⟨h2,.str x2 t2,v2⟩] ep)(ne:x1≠x2) :
  ∃ m,h.Ns d m∧m x1=some v1∧m x2=some v2∧∀ y v,m y=some v→y=x1∨y=x2:=by
 refine ⟨fun y=>if x1=y then some v1 else if x2=y then some v2 else none,⟨o,_,ep,ho,hd,fun e he=>?_,fun y=>?_⟩,if_pos rfl,?_,fun y v e=>?_⟩
 ·simp only [List.mem_toArray,List.mem_cons,List.not_mem_nil,or_false] at he
  rcases he with rfl | rfl <;> exact⟨_,_,rfl⟩
 ·unfold nsFind findBy
  rw [← Array.find?_toList]
  simp only [List.find?_cons,List.find?_nil]
  by_cases e1:x1=y
  ·subst e1;simp [Value.isStr]
  ·by_cases e2:x2=y
   ·subst e2;simp [Value.isStr,e1,beq_eq_false_iff_ne.mpr e1]
   ·simp [Value.isStr,e1,e2,beq_eq_false_iff_ne.mpr e1,beq_eq_false_iff_ne.mpr e2]
 ·show (if x1=x2 then some v1 else if x2=x2 then some v2 else none)=_
  rw [if_neg ne,if_pos rfl]
 ·by_cases e1:x1=y
  ·exact .inl e1.symm
  ·by_cases e2:x2=y
   ·exact .inr e2.symm
   ·simp only [e1,e2,if_false] at e;cases e
theorem nn_ne:nmS nNumber≠nmS nName:=by decide +kernel
theorem facts(P:Params):∃ g:Addr→Obj,(∀ a,a∈kAds ++ [98,97,101,100,1988,2,1992]→(MH.HF P).get? a=some (g a))∧(∀ a o,(KF P).lookup a=some o→a∈kAds∧o=g a)∧[g 98,g 101,g 1988]=[⟨.ref 92,some 97,.plain,#[]⟩,⟨.ref 92,some 100,.plain,#[]⟩,⟨.none,none,.fields #[],#[]⟩] ∧
  (∃ a b c d,[(g 97).data,(g 100).data]=[.dict #[⟨a,.str (nmS nNumber) 310,.int 0 304⟩,⟨b,.str (nmS nName) 312,.str (nmS 0) 305⟩] 2,.dict #[⟨c,.str (nmS nNumber) 320,.int 1 314⟩,⟨d,.str (nmS nName) 322,.str (nmS 1) 315⟩] 2]) ∧
  (∃ es n,(g 2).data=.dict es n∧(es.toList.all (fun e=>match e.key with | .str _ _=>true | _=>false) && nsFind es "sys.recursionlimit" == none)=true) ∧
  ((g 1992).cls == .type "code" && (match (g 1992).data with | .fields vs=>vs[11]? == some (.ref 1988) | _=>false))=true :=
 ⟨xo P,fun a h=>hf_get h,fun a o e=>KF_mem e,sy_obj P,⟨_,_,_,_,sy_ns P⟩,⟨_,_,st_dat P,st_chk P⟩,tab_obj P⟩
set_option tactic.hygienic true in
theorem top0{w:World}{s₀ s₁:Shared}(h0:s₀.heap=MH.HF w.params)(k:∀ b o,s₀.heap.get? b=some o→s₁.heap.get? b=some o)(hg:s₁.gens=#[])(ht:s₁.toks≠0):Top0 w s₁∧isCodeTable s₁.heap 1988:=by
 obtain⟨g,f1,f2,f3,⟨a,b,c,d,f4⟩,⟨es,ep,f5,f6⟩,f7⟩:=facts w.params
 rw [h0] at k
 have at_:∀ a,a∈kAds ++ [98,97,101,100,1988,2,1992]→s₁.heap.get? a=some (g a):=fun a h=>k _ _ (f1 a h)
 clear h0 k f1
 have tl:∀ {a:Addr},a∈[98,97,101,100,1988,2,1992]→s₁.heap.get? a=some (g a):=fun h=>at_ _ (List.mem_append_right _ h)
 obtain⟨s1,so⟩:=List.cons.inj f3
 obtain⟨s2,so⟩:=List.cons.inj so
 obtain⟨s3,_⟩:=List.cons.inj so
 obtain⟨n1,sn⟩:=List.cons.inj f4
 obtain⟨n2,_⟩:=List.cons.inj sn
 refine ⟨⟨fun a o e=>?_,fun i hi=>?_,s3 ▸ tl (by decide),?_,hg,ht⟩,?_⟩
 ·obtain⟨h1,rfl⟩:=f2 a o e
  exact at_ _ (List.mem_append_left _ h1)
 ·rcases List.mem_cons.mp hi with rfl | hi
  ·obtain⟨m,x1,x2,x3,x4⟩:=ns_two (tl (by decide)) n1 nn_ne
   exact⟨s1 ▸ tl (by decide),m,_,_,x1,x3,x2,fun y v e=>(x4 y v e).symm⟩
  ·obtain rfl:=List.mem_singleton.mp hi
   obtain⟨m,x1,x2,x3,x4⟩:=ns_two (tl (by decide)) n2 nn_ne
   exact⟨s2 ▸ tl (by decide),m,_,_,x1,x3,x2,fun y v e=>(x4 y v e).symm⟩
 ·rw [Bool.and_eq_true,List.all_eq_true,beq_iff_eq] at f6
  refine ⟨_,⟨g 2,_,_,tl (by decide),f5,fun e he=>?_,fun _=>rfl⟩,f6.2⟩
  have:=f6.1 e (Array.mem_toList_iff.mpr he)
  split at this
  ·exact⟨_,_,by assumption⟩
  ·cases this
 ·rw [Bool.and_eq_true,beq_iff_eq] at f7
  obtain⟨f7,f8⟩:=f7
  split at f8
  ·rename_i vs hv
   exact⟨1992,g 1992,vs,tl (by decide),f7,hv,eq_of_beq f8⟩
  ·cases f8
theorem well_list{P:Params}{h:Heap}{v:Value}{xs:List WData}(x:Well P h v (.list xs)):∃ a vs,v=.ref a∧h.get? a=some { cls:=.type "list",data:=.seq vs.toArray }∧WellAll P h vs xs:=by
 cases x with | list g a=>exact⟨_,_,rfl,g,a⟩
theorem well_ints{P:Params}{h:Heap}{vs:List Value}:∀ {xs:List WData},WellAll P h vs xs→WShape.hasItems [] xs .int=true→vs.length=xs.length∧∀ v∈vs,∃ z t,v=.int z t:=by
 induction vs with
 | nil=>intro xs w _;cases w;exact⟨rfl,fun _ h=>nomatch h⟩
 | cons v vs ih =>
  intro xs w h
  cases xs with
  | nil=>cases w
  | cons d ds =>
  cases w with | cons a b =>
  have h:(WShape.has [] d .int && WShape.hasItems [] ds .int)=true:=by simpa only [WShape.hasItems] using h
  rw [Bool.and_eq_true] at h
  obtain⟨i,rfl⟩:=hasW_int h.1
  obtain⟨l,r⟩:=ih b h.2
  cases a
  exact⟨congrArg (· + 1) l,fun v hv=>(List.mem_cons.mp hv).elim (fun e=>⟨_,_,e⟩) (r v)⟩
theorem pre_len{xs:List WData}(h:(MH.lw.pre).holds [] { args:=[.list xs] }=true):xs.length≤63:=by
 simp [PySem.Challenge.rw_np0117_01,OpenLaw.pre,WTm.holds,WTm.value] at h
 by_cases q:(63:Int) < (xs.length:Int)
 ·have e:less? (WData.int 63) (WData.int (xs.length:Int))=some true:=by
   show some (decide ((63:Int) < (xs.length:Int)))=_
   rw [decide_eq_true q]
  rw [e] at h
  cases h
 ·omega
theorem law_ref{w:World}{s:Shared}{mg:PS→Option Value}{a:Addr}(st:(KF w.params).In s.heap)(ns:s.heap.Ns mainGlobals mg)(e:mg "law" = some (.ref a)):a=2050:=by
 obtain⟨o,ho,hl⟩:=Ns_lookIn ns "law"
 have g:=law_glo w.params
 unfold nsIn at g
 cases k:(KF w.params).lookup mainGlobals with
 | none=>rw [k] at g;cases g
 | some o' =>
  rw [k] at g
  have:=st _ _ k
  rw [ho] at this
  obtain rfl:=Option.some.inj this
  rw [e] at hl
  obtain⟨c,d,dt,sl⟩:=o
  cases dt with
  | dict es ep=>cases hl.symm.trans g;rfl
  | _=>cases g
theorem walk(prm:∀ w,PrimOk ZZ w){d:DefRec}{kwd:List (PS × PX)}(hn:d.name= "law"):WalkX MH.qv MH.looseN (fun _ _=>True) MH.YF MH.YA MH.lw.row.toRowW d kwd fun f vs=>PySem.call f vs:=by
 intro w s₀ s₁ mg mb G Y a o pm cd doc dV kV h1 h2 h3 h4 h5 hg args vals as L hpre hlay rd wl _
 obtain⟨hs,hp⟩:=pre_splitW hpre
 obtain⟨d0,r0,rfl,hs1,hs2⟩:=hasAllW_cons hs
 obtain rfl:=hasAllW_nil hs2
 obtain⟨xs,rfl,hs3⟩:=hasW_list hs1
 have hlen:=pre_len hp
 cases wl with | cons w1 w2 =>
 cases w2
 obtain⟨la,vs,rfl,g,wa⟩:=well_list w1
 obtain⟨hl,hi⟩:=well_ints wa hs3
 have hh:s₀.heap=MH.HF w.params:=congrArg Prod.fst Y
 have ht:s₀.toks=2961:=congrArg Prod.snd Y
 obtain⟨ord,_,lay⟩:=L.laid
 have ht1:s₁.toks≠0:=by
  have:=(layAllW_grows _ _ _ lay).toks
  have this:s₀.toks≤s₁.toks:=this
  omega
 obtain⟨T,ct⟩:=top0 hh L.keeps hg ht1
 rw [hn] at h5
 obtain rfl:=law_ref T.st G.T.g h5
 have ne:la≠1988:=fun z=>by
  have:=T.nt
  rw [← z,g] at this
  cases this
 refine wpAny_mono (law_call (prm w) T (E:=fun _ _=>False) g (by rw [List.size_toArray,hl];exact hlen) (fun v hv=>hi v (by simpa using hv)) ne) (fun v s' z=>?_) fun _ _ z=>z.elim
 obtain⟨rfl,z1,⟨more,z2⟩,z3,z4⟩:=z
 refine ⟨.inl ⟨.bool true,.bool true,[],rfl,fun _=>rfl,.bool true,?_,fun _=>⟨List.nodup_nil,fun _ h=>nomatch h⟩⟩,⟨fun b ob e=>?_,fun b ob e=>?_⟩,z3.3,?_⟩
 ·show (WShape.has [] (.bool true) .bool && WTm.holds [] (.eq .res (.lit (.bool true))) { args:=[.list xs],res:=some (.bool true),after:=[.list xs] })=true
  kernel_rfl
 ·by_cases hb:b=1988
  ·subst hb
   rw [T.nt] at e
   obtain rfl:=Option.some.inj e
   exact .inr (.inl ⟨ct,rfl,#[],more,rfl,by rw [z2];simp⟩)
  ·exact .inl (z1 b ob e hb)
 ·by_cases hb:b=1988
  ·subst hb;exact⟨_,z2⟩
  ·exact⟨ob,z1 b ob e hb⟩
 ·rw [z4];exact fun i h=>nomatch h
end Mine
end
section
open PySem renaming Expr→PX,Str→PS
open PySem PySem.W
namespace Mine
noncomputable abbrev ll:OpenLaw:=PySem.Challenge.rw_np0117_01
noncomputable abbrev rr:OpenRow:=PySem.Challenge.rw_np0117_01.row
theorem lo0:(sreFenced rr.prog.main)=true:=by kernel_rfl
theorem lo1:((moduleNames rr.prog.main.body).isEmpty || lookedIntoSs (moduleNames rr.prog.main.body) rr.prog.main.body)=true:=by kernel_rfl
theorem lo2:(namesResolve rr.prog)=true:=by rw [Fast.te8377067652309620493];kernel_rfl
theorem lo3:(rr.prog.boundNames.all (fun n=>!worldNames.contains n))=true:=by kernel_rfl
theorem lo4:(noRoadLSs { strict:=!(importedModules rr.prog.main.body).all cThrough.contains,foot:=none,bare:=(["vars","dir","locals"]:List Str).filter (readsOut rr.prog rr.prog.main.body) } rr.prog.main.body)=true:=by rw [Fast.te8326940854005059898,Fast.te13343964577679436407];kernel_rfl
theorem lo5:(namesMeet rr.prog rr.prog.main.body fun _ n=>attrL n)=true:=by kernel_rfl
theorem said_lo:looksOpen rr.prog=true:=look_both (look_both (look_both (look_both (look_both (lo0) lo1) lo2) lo3) lo4) lo5
theorem pa1:(rr.loose.isEmpty)=true:=by kernel_rfl
theorem pa2:(rr.makers.isEmpty)=true:=by kernel_rfl
theorem pa3:((rr.records.isEmpty || rr.raises.all fun ct=>ct.1 != .builtin "AttributeError" && ct.1 != .builtin "TypeError"))=true:=by kernel_rfl
theorem pa4:((rr.raises.all fun ct=>match ct.1 with | .builtin n=>!rr.prog.boundNames.contains (Str.ofString n) && !ofTheWorld.contains n | .own _=>true))=true:=by kernel_rfl
theorem pa5:(decide (rr.records.map (·.1)).Nodup)=true:=by kernel_rfl
theorem pa6:((rr.records.all fun x=>!x.1.opensWith "__" && !builtinNamed x.1 && rr.prog.boundNames.contains x.1 && x.2.all fun f=>!f.1.opensWith "__"))=true:=by kernel_rfl
theorem pa7:(rr.toRowW.solid)=true:=by kernel_rfl
theorem pa8:(rr.pre.litsOk)=true:=by kernel_rfl
theorem pa9:(rr.post.litsOk)=true:=by kernel_rfl
theorem pa10:(rr.raises.all (·.2.litsOk))=true:=by kernel_rfl
theorem pa11:(rr.mutates.all (fun i=>match rr.args[i]? with | some sh=>!sh.arms.any WShape.isObj | none=>false))=true:=by kernel_rfl
theorem pa12:(rr.within.all (fun i=>decide (i < rr.args.length)))=true:=by kernel_rfl
theorem pa13:(rr.same.all (fun i=>decide (i < rr.args.length)))=true:=by kernel_rfl
theorem said_pa:rr.partSaid=true:=look_both (look_both (look_both (look_both (look_both (look_both (look_both (look_both (look_both (look_both (look_both (look_both (look_both (said_lo) pa1) pa2) pa3) pa4) pa5) pa6) pa7) pa8) pa9) pa10) pa11) pa12) pa13
theorem ro1:(rr.prog.boundNames.contains rr.name)=true:=by kernel_rfl
theorem ro2:(!startupNames.contains rr.name)=true:=by kernel_rfl
theorem said_ro:rr.wellSaid=true:=look_both (look_both (said_pa) ro1) ro2
theorem la1:(decide (ll.foot≤(behindTheImports ll.prog).length))=true:=by kernel_rfl
theorem la2:(ll.footing.all footLine)=true:=by kernel_rfl
theorem la3:(noClassBlock ll.prog ll.footing)=true:=by kernel_rfl
theorem la4:(ll.most.all (fun n=>decide (63≤n)))=true:=by kernel_rfl
theorem la5:(ll.bound.all (fun n=>decide (2 ^ 63≤n)))=true:=by kernel_rfl
theorem la6:(noRoadLSs { strict:=true,foot:=some ll.bound',writes:=ll.writes,may:=ll.may } ll.footing)=true:=by kernel_rfl
theorem la7:(defStands ll.about ll.above)=true:=by kernel_rfl
theorem la8:(ll.namesIt)=true:=by kernel_rfl
theorem la9:((["type","isinstance","issubclass","getattr","hasattr"]:List Str).all (fun n=>ll.about != [n]))=true:=by kernel_rfl
theorem la10:(ll.bound'.all (fun n=>!builtinNamed n || ll.about == [n] || !ll.reads n))=true:=by kernel_rfl
theorem la11:((!ll.writes || (ll.prog.main.body.flatMap importedNames).all fun n=>!ll.reads n))=true:=by kernel_rfl
theorem la12:((ll.prog.main.body.flatMap importedNames).all (fun n=>!ll.reads n || (drawsOf n ll.prog.main.body).all fun mn=>mn.2 != ("attrgetter" : Str) && mn.2 != ("methodcaller" : Str)))=true:=by kernel_rfl
theorem la13:(namesMeet ll.prog ll.footing (fun sc n=>(!(["type","isinstance","issubclass","getattr","hasattr"]:List Str).contains n || sc.names.lookup n == some .globalImplicit) && (ll.may != some n || sc.kind == .module || sc.names.lookup n == some .globalImplicit)))=true:=by kernel_rfl
theorem la14:(ll.own.contains ll.name)=true:=by kernel_rfl
theorem la15:(ll.own.eraseDups.length == ll.own.length)=true:=by kernel_rfl
theorem la16:(ll.own.all (fun n=>!builtinNamed n))=true:=by kernel_rfl
theorem la17:(namesMeet ll.prog ll.above (fun _ n=>!ll.own.contains n))=true:=by kernel_rfl
theorem la18:(namesMeet ll.prog ll.footing fun sc n=>sc.kind == .module || sc.names.lookup n != some .globalExplicit)=true:=by kernel_rfl
theorem said_la:ll.wellSaid=true:=look_both (look_both (look_both (look_both (look_both (look_both (look_both (look_both (look_both (look_both (look_both (look_both (look_both (look_both (look_both (look_both (look_both (look_both (said_ro) la1) la2) la3) la4) la5) la6) la7) la8) la9) la10) la11) la12) la13) la14) la15) la16) la17) la18
theorem said_law:PySem.Challenge.rw_np0117_01.wellSaid=true:=said_la
end Mine
end
section
open PySem renaming Expr→PX,Str→PS
open PySem PySem.W PySem.Calls PyProof.Rows PySem.SeqAt
namespace Mine
theorem nameIs:MH.dk.1.name= "law" := (defOf_name MH.hdef)
theorem prom:MH.lw.row.toRowW.promised:=⟨[.list []],by kernel_rfl,by kernel_rfl⟩
theorem rowH(prm:∀ w,PrimOk ZZ w)(said:MH.lw.row.wellSaid=true):MH.lw.row.Holds :=
 MH.rowHoldsG MH.dk.1 MH.dk.2 MH.hdef MH.hp MH.hk MH.hRf MH.ok1 MH.bare1 said prom (walk prm nameIs)
theorem lawH(prm:∀ w,PrimOk ZZ w):PySem.Challenge.rw_np0117_01.Holds:=holds_law said_law fun said=>rowH prm said
end Mine
end
section
open PySem renaming Expr→PX,Str→PS
open PySem
namespace Mine
theorem law_holds:PySem.Challenge.rw_np0117_01.Holds:=lawH prim_ok
end Mine
end
theorem PySem.Challenge.cw_np0117_01_holds : PySem.Challenge.rw_np0117_01.Holds := by
  exact Mine.law_holds
