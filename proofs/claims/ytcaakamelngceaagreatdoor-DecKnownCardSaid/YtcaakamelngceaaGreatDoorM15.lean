/- Part 15 of a proof: U10 to U10. -/
import Derived.Test.YtcaakamelngceaaGreatDoorM14
import Derived.Test.YtcaakamelngceaaGreatDoorM12
set_option maxRecDepth 100000
set_option linter.unusedVariables false
set_option linter.unusedSimpArgs false
namespace Go.Proofs.YtcaakamelngceaaGreatDoor
open Go Go.RowKit
theorem mU (q:Rat):LimF (.of q):=⟨aN (by omega) _,aN (by omega) _⟩
def LW (L:List (List Nat)):List Tr:=L.map fun l=>.v (.string (aC l))
theorem BY:∀(L:List (List Nat)){k:Nat},k<L.length→((LW L).drop (k*1)).take [Tr.v (.string (aC (kG L k)))].length=[Tr.v (.string (aC (kG L k)))]
 | [],_,h=>by simp at h
 | _::_,0,_=>rfl
 | _::l,k+1,h=>by
  have:=BY l (k:=k) (by simpa using h)
  simp only[Nat.mul_one]at this⊢
  exact this
def LX (L:List Int):List Tr:=L.map fun z=>.v (.int .i64 z)
def Yp (L:List Int) (k:Nat):Int:=L.getD k 0
theorem BZ:∀(L:List Int){k:Nat},k<L.length→((LX L).drop (k*1)).take [Tr.v (.int .i64 (Yp L k))].length=[Tr.v (.int .i64 (Yp L k))]
 | [],_,h=>by simp at h
 | _::_,0,_=>rfl
 | _::l,k+1,h=>by
  have:=BZ l (k:=k) (by simpa using h)
  simp only[Nat.mul_one]at this⊢
  exact this
def jJ:List (List Nat):=[[],[48],[45,48],[45,48,46,48],[45,48,46,48,49],[48,48],[48,46],[46,53],[49,46],[49,46,48],[48,49],[49,46,50,46,51],[45,45,49],[45],[43,49],[49,37],[49,48,48,37],[49,48,48,46,48,48,48,48,37],[49,48,48,46,48,48,48,49,37],[48,46,48,48,48,48,49,37],[49,46,50,51,52,53,37],[45,49,37],[37],[48,37],[51,55,46,53,37],[49,44,53],[32,49],[57,57,57,57,57,57,57,57,57,57,57,57,57,57,57,57,57,57,57,57,57,57,57,57,57,57,57,57,57,57,57,57,57,57,57,57,57,57,57,57],[57,57,57,57,57,57,57,57,57,57,57,57,57,57,57,57,57,57,57,57,57,57,57,57,57,57,57,57,57,57,57,57,57,57,57,57,57,57,57,57,57],[48,46,48,48,48,48,48,48,48,48,48,48,48,48,48,48,48,48,48,48,48,48,48,48,48,48,48,48,48,48,48,48,48,48,48,48,48,48,48,48,49],[48,46,48,48,48,48,48,48,48,48,48,48,48,48,48,48,48,48,48,48,48,48,48,48,48,48,48,48,48,48,48,48,48,48,48,48,48,48,48,48,48,49],[49,46,48,48,53],[57,57,57,57,57,57,57,57,57,57,57,57,57,57,57,57,57,57,57,57,57,57,57,57,57,57,57,57,57,57,57,57,57,57,57,57,57,57,57,57,57,46,48,48,53],[48,48,37]]
def Ii:List Int:=[-1,0,39,40,41,1099511627776]
theorem Ij:jJ.length=34:=rfl
theorem Yq:Ii.length=6:=rfl
theorem Yr:∀l∈jJ,Lim 256 l:=show∀l∈jJ,∀x∈l,x<256 by decide
theorem LY:∀l∈jJ,l.length≤45:=by decide
theorem On:aE true Tryz.prog 6 [] [] (aM (.one (tv (.bool true)))):=by
 refine bD Tryz.func6 rfl Tryz.ntmps6 rfl aA rfl fun N9 w9 c0 h0=>?_
 refine sq ?_;refine rl ?_;refine o1 ?_;refine nl ?_;refine sq ?_;refine sq ?_;refine rl ?_;refine o1 ?_;refine nl ?_;refine bl ?_
 refine lp (γ:=Nat) (fun s=>cD [(1,.one (tv (.int .i64 (((s:Nat):Int)-40))))]) (fun s=>([]:List Ob).map some) (fun s=>s≤81) (fun s=>81-s) 0 (Nat.zero_le _) (aO h0 [] _ _ (by decide) ⟨kC (by omega),trivial⟩ rfl) ?_
 rintro i9 hi9;refine sq ?_;refine sq ?_;refine rl ?_;refine o1 ?_;refine o1 ?_;refine nl ?_;refine bN rfl (fun h1=>?_) (fun h1=>?_)
 ·refine sk ?_;refine sq ?_;refine bl ?_;refine sq ?_;refine rl ?_;refine o1 ?_
  refine ca (jH (n:=(((i9:Nat):Int)-40)) (d:=((8:Nat):Int)) (by omega) (by omega) (by omega) (by omega)) jI ⟨a1 rfl,a1 rfl,rfl⟩ (qF (.of (Rat.divInt (((i9:Nat):Int)-40) ((8:Nat):Int)))) ?_
  refine o1 ?_;refine o1 ?_;refine WL.cast (t:=13) (u':=.int .i64 (((((i9:Nat):Int)-40).tmod 4))) rfl (aH rfl) ?_
  refine ca (lC (a:=.of (Rat.divInt (((i9:Nat):Int)-40) ((8:Nat):Int))) (mU _)) Mt ⟨aB rfl,a1 rfl,rfl⟩ (.one (tv (.bool true))) ?_;(iterate 3 refine o1 ?_)
  refine ca (jH (n:=(((i9:Nat):Int)-40)) (d:=((2000:Nat):Int)) (by omega) (by omega) (by omega) (by omega)) jI ⟨a1 rfl,a1 rfl,rfl⟩ (qF (.of (Rat.divInt (((i9:Nat):Int)-40) ((2000:Nat):Int)))) ?_
  refine ca (lC (a:=.of (Rat.divInt (((i9:Nat):Int)-40) ((2000:Nat):Int))) (mU _)) Mt ⟨aB rfl,a1 rfl,rfl⟩ (.one (tv (.bool true))) ?_;(iterate 4 refine o1 ?_)
  refine ca (jH (n:=(((i9:Nat):Int)-40)) (d:=((40:Nat):Int)) (by omega) (by omega) (by omega) (by omega)) jI ⟨a1 rfl,a1 rfl,rfl⟩ (qF (.of (Rat.divInt (((i9:Nat):Int)-40) ((40:Nat):Int)))) ?_
  refine ca (lC (a:=.of (Rat.divInt (((i9:Nat):Int)-40) ((40:Nat):Int))) (mU _)) Mt ⟨aB rfl,a1 rfl,rfl⟩ (.one (tv (.bool true))) ?_;(iterate 4 refine o1 ?_)
  refine ca (jH (n:=(((i9:Nat):Int)-40)) (d:=((7:Nat):Int)) (by omega) (by omega) (by omega) (by omega)) jI ⟨a1 rfl,a1 rfl,rfl⟩ (qF (.of (Rat.divInt (((i9:Nat):Int)-40) ((7:Nat):Int)))) ?_
  refine o1 ?_;refine o1 ?_;refine WL.cast (t:=32) (u':=.int .i64 ((i9:Nat):Int)) rfl (aH (by omega)) ?_
  refine o1 ?_;refine WL.cast (t:=33) (u':=.int .u8 ((i9:Nat):Int)) rfl (aH (by omega)) ?_
  refine ca (Dr (a:=.of (Rat.divInt (((i9:Nat):Int)-40) ((7:Nat):Int))) (m:=i9) (l:=[49,50,46,53]) (mU _) (by omega) (show∀x∈([49,50,46,53]:List Nat),x<256 by decide)) SO ⟨aB rfl,a1 rfl,a1 rfl,rfl⟩ (.one (tv (.bool true))) ?_
  (iterate 5 refine o1 ?_);refine WL.cast (t:=39) (u':=.int .i64 (((((i9:Nat):Int)-40)*31))) rfl (aH (by omega)) ?_
  refine ca (jH (n:=((((i9:Nat):Int)-40)*31)) (d:=((1000000:Nat):Int)) (by omega) (by omega) (by omega) (by omega)) jI ⟨a1 rfl,a1 rfl,rfl⟩ (qF (.of (Rat.divInt ((((i9:Nat):Int)-40)*31) ((1000000:Nat):Int)))) ?_
  refine ca (lC (a:=.of (Rat.divInt ((((i9:Nat):Int)-40)*31) ((1000000:Nat):Int))) (mU _)) Mt ⟨aB rfl,a1 rfl,rfl⟩ (.one (tv (.bool true))) ?_;refine o1 ?_;refine o1 ?_
  refine nl ?_;refine fD rfl ?_;refine sk ?_;refine rl ?_;refine o1 ?_;refine o1 ?_;refine WL.cast (t:=9) (u':=.int .i64 ((((i9+1:Nat):Int)-40))) rfl (aH (by omega)) ?_
  refine o1 ?_;refine nl ?_;exact⟨i9+1,by omega,by omega,aO h0 [] _ _ (by decide) ⟨rfl,trivial⟩ rfl⟩
 refine ex ?_;refine sq ?_;refine sq ?_;refine rl ?_;refine bs 0 ?_;refine WL.sub (BM (i:=44) (k:=0) (t:=9) (z:=1) (n:=34) (l:=LW jJ) 9 rfl rfl rfl rfl (.one .sl)) ?_
 refine o1 ?_;refine WL.cast (t:=45) (u':=.int .i64 ((34:Nat):Int)) rfl rfl ?_;refine o1 ?_;refine nl ?_;refine bl ?_
 refine lp (γ:=Nat) (fun s=>cD [(44,.one (.t (.s false 9 1 34 (LW jJ)))),(45,.one (tv (.int .i64 ((34:Nat):Int)))),(46,.one (tv (.int .i64 ((s:Nat):Int))))]) (fun s=>([]:List Ob).map some) (fun s=>s≤34) (fun s=>34-s) 0 (Nat.zero_le _) (aO h0 [] _ _ (by decide) ⟨rfl,rfl,rfl,trivial⟩ rfl) ?_
 rintro i9 hi9;refine sq ?_;refine rl ?_;refine o1 ?_;refine nl ?_;refine sq ?_;refine bN rfl (fun h2=>?_) (fun h2=>?_)
 ·refine sk ?_;refine sq ?_;refine bl ?_;refine sq ?_;refine rl ?_;refine o1 ?_;refine kD ([.v (.string (aC (kG jJ (i9))))]) (BY jJ (k:=i9) (by rw[Ij];omega)) ?_
  refine o1 ?_;refine nl ?_;refine sq ?_;have hm9:=pE (l:=jJ) (k:=i9) (by rw[Ij];omega)
  have hs9:Lim 256 (kG jJ (i9)):=Yr _ hm9
  have hn9:(kG jJ (i9)).length≤45:=LY _ hm9
  refine rl ?_;refine o1 ?_;refine ca (tD (l:=(kG jJ (i9))) hs9) LZ ⟨a1 rfl,rfl⟩ (.one (tv (.bool true))) ?_;(iterate 3 refine o1 ?_)
  refine o1 ?_ (hC:=(by rw[aF];show _+1≤_;omega))
  refine WL.cast (t:=55) (u':=.string (aC (kG jJ (i9)++[48]))) rfl (congrArg Value.string (fM _ [48])) ?_
  refine ca (tD (l:=(kG jJ (i9)++[48])) (hs9.append (Lim.cons (by omega) Lim.nil))) LZ ⟨a1 rfl,rfl⟩ (.one (tv (.bool true))) ?_
  (iterate 4 refine o1 ?_);refine o1 ?_ (hC:=(by rw[aF];show 1+_≤_;omega))
  refine WL.cast (t:=61) (u':=.string (aC (45::kG jJ (i9)))) rfl (congrArg Value.string (fM [45] _)) ?_
  refine ca (tD (l:=(45::kG jJ (i9))) (Lim.cons (by omega) hs9)) LZ ⟨a1 rfl,rfl⟩ (.one (tv (.bool true))) ?_
  (iterate 3 refine o1 ?_)
  refine ca (jH (n:=((1:Nat):Int)) (d:=((3:Nat):Int)) (by omega) (by omega) (by omega) (by omega)) jI ⟨a1 rfl,a1 rfl,rfl⟩ (qF (.of (Rat.divInt ((1:Nat):Int) ((3:Nat):Int)))) ?_
  refine o1 ?_
  refine ca (Dr (a:=.of (Rat.divInt ((1:Nat):Int) ((3:Nat):Int))) (m:=5) (l:=(kG jJ (i9))) (mU _) (by omega) hs9) SO ⟨aB rfl,a1 rfl,a1 rfl,rfl⟩ (.one (tv (.bool true))) ?_
  refine o1 ?_;refine o1 ?_;refine nl ?_;refine fD rfl ?_;refine sk ?_;refine rl ?_;refine o1 ?_;refine WL.cast (t:=71) (u':=.int .i64 ((i9+1:Nat):Int)) rfl (aH (by omega)) ?_
  refine o1 ?_;refine nl ?_;exact⟨i9+1,by omega,by omega,aO h0 [] _ _ (by decide) ⟨rfl,rfl,rfl,trivial⟩ rfl⟩
 refine ex ?_;refine sq ?_;refine sq ?_;refine rl ?_;refine bs 0 ?_;refine WL.sub (BM (i:=72) (k:=0) (t:=3) (z:=1) (n:=6) (l:=LX Ii) 3 rfl rfl rfl rfl (.one .sl)) ?_
 refine o1 ?_;refine WL.cast (t:=73) (u':=.int .i64 ((6:Nat):Int)) rfl rfl ?_;refine o1 ?_;refine nl ?_;refine bl ?_
 refine lp (γ:=Nat) (fun s=>cD [(72,.one (.t (.s false 3 1 6 (LX Ii)))),(73,.one (tv (.int .i64 ((6:Nat):Int)))),(74,.one (tv (.int .i64 ((s:Nat):Int))))]) (fun s=>([]:List Ob).map some) (fun s=>s≤6) (fun s=>6-s) 0 (Nat.zero_le _) (aO h0 [] _ _ (by decide) ⟨rfl,rfl,rfl,trivial⟩ rfl) ?_
 rintro i9 hi9;refine sq ?_;refine rl ?_;refine o1 ?_;refine nl ?_;refine sq ?_;refine bN rfl (fun h3=>?_) (fun h3=>?_)
 ·refine sk ?_;refine sq ?_;refine bl ?_;refine sq ?_;refine rl ?_;refine o1 ?_;refine kD ([.v (.int .i64 (Yp Ii (i9)))]) (BZ Ii (k:=i9) (by rw[Yq];omega)) ?_
  refine o1 ?_;refine nl ?_;refine sq ?_;refine rl ?_
  refine ca (jH (n:=(-2)) (d:=((3:Nat):Int)) (by omega) (by omega) (by omega) (by omega)) jI ⟨a1 rfl,a1 rfl,rfl⟩ (qF (.of (Rat.divInt (-2) ((3:Nat):Int)))) ?_
  refine o1 ?_;refine ca (lC (a:=.of (Rat.divInt (-2) ((3:Nat):Int))) (mU _)) Mt ⟨aB rfl,a1 rfl,rfl⟩ (.one (tv (.bool true))) ?_;(iterate 4 refine o1 ?_)
  refine ca (lC (a:=⟨false,[],false,[]⟩) ⟨Lim.nil,Lim.nil⟩) Mt ⟨Dp rfl (.cons .t (.cons .nil (.cons .t (.cons .nil .nil)))),a1 rfl,rfl⟩ (.one (tv (.bool true))) ?_;refine o1 ?_
  refine o1 ?_;refine nl ?_;refine fD rfl ?_;refine sk ?_;refine rl ?_;refine o1 ?_;refine WL.cast (t:=88) (u':=.int .i64 ((i9+1:Nat):Int)) rfl (aH (by omega)) ?_
  refine o1 ?_;refine nl ?_;exact⟨i9+1,by omega,by omega,aO h0 [] _ _ (by decide) ⟨rfl,rfl,rfl,trivial⟩ rfl⟩
 refine ex ?_;refine sq ?_;refine rl ?_;refine ca (eH) oG rfl (.one (tv (.bool true))) ?_;refine o1 ?_;refine nl ?_;refine rt ?_;exact gJ (.inl rfl) rfl (rfl)
end Go.Proofs.YtcaakamelngceaaGreatDoor
