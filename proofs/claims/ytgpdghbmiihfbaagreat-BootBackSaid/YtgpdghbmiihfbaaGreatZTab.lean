/-
 The table of the types of this seat, for the value-semantics layer. Written by a program (mktab.py).
-/
import Derived.Test.YtgpdghbmiihfbaaGreatZVsBits
import Derived.Test.YtgpdghbmiihfbaaGreatRows
import Derived.KernelRfl
namespace Go.Proofs.YtgpdghbmiihfbaaGreat.Tab
open Go Go.VS

set_option maxRecDepth 100000
def zv (ti:TI):Value:=if ti.agg then .agg ti.zero.toArray else ti.zero.headD .nilFunc
def plT (P:Program) (pl:List (Nat×Nat)):TypeDesc->Prop
 | .struct fs=>∀w,(fs.mapM fun f=>(do pure (f.offset,<- sizeOf f.type):Sem (Nat×Nat))).run P w= .ok pl.toArray w
 | _=>True
theorem tq {P:Program} {t:TypeId} {ti:TI} (h:((P.info? t).map fun i=>(i.size,i.bytes,i.zero),P.underlying t,ti.zero.all X0m,ti.zero.length,ti.agg,(zv ti).cells.toList)=(some (ti.size,ti.bytes,some (zv ti)),some ti.desc,true,ti.size,X24 ti.desc,ti.zero)) (hp:plT P ti.pl ti.desc):TIok P t ti:=by
 simp only[ji] at h;obtain⟨hi,hu,hl,hn,ha,hz⟩:=h;refine⟨hu,?_,hl,hn,ha,fun fs hf=>by rw[hf] at hp;exact hp⟩;cases h:P.info? t with
 |none=>rw[h] at hi;cases hi
 |some i=>
  rw[h] at hi;simp only[Option.map_some,ax,ji] at hi;exact⟨i,zv ti,rfl,hi.1,hi.2.1,hi.2.2,hz⟩
abbrev ti1:TI:=⟨.func #[] #[] false,1,8,[.nilFunc],false,[]⟩
theorem ok1:TIok Tryz.prog 1 ti1:=tq (by kernel_rfl) trivial
abbrev ti2:TI:=⟨.int .i64,1,8,[.int .i64 0],false,[]⟩
theorem ok2:TIok Tryz.prog 2 ti2:=tq (by kernel_rfl) trivial
abbrev ti3:TI:=⟨.int .i64,1,8,[.int .i64 0],false,[]⟩
theorem ok3:TIok Tryz.prog 3 ti3:=tq (by kernel_rfl) trivial
abbrev ti4:TI:=⟨.bool,1,1,[.bool false],false,[]⟩
theorem ok4:TIok Tryz.prog 4 ti4:=tq (by kernel_rfl) trivial
abbrev ti5:TI:=⟨.int .u8,1,1,[.int .u8 0],false,[]⟩
theorem ok5:TIok Tryz.prog 5 ti5:=tq (by kernel_rfl) trivial
abbrev ti9:TI:=⟨.string,1,16,[.string ByteArray.empty],false,[]⟩
theorem ok9:TIok Tryz.prog 9 ti9:=tq (by kernel_rfl) trivial
abbrev ti20:TI:=⟨.interface #[],1,16,[.nilIface],false,[]⟩
theorem ok20:TIok Tryz.prog 20 ti20:=tq (by kernel_rfl) trivial
abbrev ti22:TI:=⟨.slice 5,1,24,[.slice none 0 0],false,[]⟩
theorem ok22:TIok Tryz.prog 22 ti22:=tq (by kernel_rfl) trivial
abbrev ti23:TI:=⟨.slice 154,1,24,[.slice none 0 0],false,[]⟩
theorem ok23:TIok Tryz.prog 23 ti23:=tq (by kernel_rfl) trivial
abbrev ti24:TI:=⟨.slice 158,1,24,[.slice none 0 0],false,[]⟩
theorem ok24:TIok Tryz.prog 24 ti24:=tq (by kernel_rfl) trivial
abbrev ti25:TI:=⟨.slice 169,1,24,[.slice none 0 0],false,[]⟩
theorem ok25:TIok Tryz.prog 25 ti25:=tq (by kernel_rfl) trivial
abbrev ti26:TI:=⟨.slice 161,1,24,[.slice none 0 0],false,[]⟩
theorem ok26:TIok Tryz.prog 26 ti26:=tq (by kernel_rfl) trivial
abbrev ti27:TI:=⟨.struct #[⟨ "Version",3,0,false, "", "",0⟩,⟨ "Parent",3,1,false, "", "",8⟩,⟨ "Sections",23,2,false, "", "",16⟩,⟨ "Points",24,3,false, "", "",40⟩,⟨ "Signals",25,4,false, "", "",64⟩,⟨ "Routes",26,5,false, "", "",88⟩],6,112,[.int .i64 0,.int .i64 0,.slice none 0 0,.slice none 0 0,.slice none 0 0,.slice none 0 0],true,[(0,1),(1,1),(2,1),(3,1),(4,1),(5,1)]⟩
theorem ok27:TIok Tryz.prog 27 ti27:=tq (by kernel_rfl) (fun w=>by kernel_rfl)
abbrev ti28:TI:=⟨.struct #[⟨ "Version",3,0,false, "", "",0⟩,⟨ "Parent",3,1,false, "", "",8⟩,⟨ "Sections",23,2,false, "", "",16⟩,⟨ "Points",24,3,false, "", "",40⟩,⟨ "Signals",25,4,false, "", "",64⟩,⟨ "Routes",26,5,false, "", "",88⟩],6,112,[.int .i64 0,.int .i64 0,.slice none 0 0,.slice none 0 0,.slice none 0 0,.slice none 0 0],true,[(0,1),(1,1),(2,1),(3,1),(4,1),(5,1)]⟩
theorem ok28:TIok Tryz.prog 28 ti28:=tq (by kernel_rfl) (fun w=>by kernel_rfl)
abbrev ti29:TI:=⟨.slice 156,1,24,[.slice none 0 0],false,[]⟩
theorem ok29:TIok Tryz.prog 29 ti29:=tq (by kernel_rfl) trivial
abbrev ti30:TI:=⟨.slice 131,1,24,[.slice none 0 0],false,[]⟩
theorem ok30:TIok Tryz.prog 30 ti30:=tq (by kernel_rfl) trivial
abbrev ti31:TI:=⟨.slice 95,1,24,[.slice none 0 0],false,[]⟩
theorem ok31:TIok Tryz.prog 31 ti31:=tq (by kernel_rfl) trivial
abbrev ti32:TI:=⟨.struct #[⟨ "Tracks",29,0,false, "", "",0⟩,⟨ "Switches",30,1,false, "", "",24⟩,⟨ "Locks",31,2,false, "", "",48⟩],3,72,[.slice none 0 0,.slice none 0 0,.slice none 0 0],true,[(0,1),(1,1),(2,1)]⟩
theorem ok32:TIok Tryz.prog 32 ti32:=tq (by kernel_rfl) (fun w=>by kernel_rfl)
abbrev ti33:TI:=⟨.struct #[⟨ "Tracks",29,0,false, "", "",0⟩,⟨ "Switches",30,1,false, "", "",24⟩,⟨ "Locks",31,2,false, "", "",48⟩],3,72,[.slice none 0 0,.slice none 0 0,.slice none 0 0],true,[(0,1),(1,1),(2,1)]⟩
theorem ok33:TIok Tryz.prog 33 ti33:=tq (by kernel_rfl) (fun w=>by kernel_rfl)
abbrev ti34:TI:=⟨.struct #[⟨ "Key",22,0,false, "", "",0⟩,⟨ "Plan",28,1,false, "", "",24⟩,⟨ "Back",28,7,false, "", "",136⟩,⟨ "High",3,13,false, "", "",248⟩,⟨ "State",33,14,false, "", "",256⟩,⟨ "Buffer",22,17,false, "", "",328⟩,⟨ "Next",28,18,false, "", "",352⟩,⟨ "Halted",4,24,false, "", "",464⟩],25,472,[.slice none 0 0,.int .i64 0,.int .i64 0,.slice none 0 0,.slice none 0 0,.slice none 0 0,.slice none 0 0,.int .i64 0,.int .i64 0,.slice none 0 0,.slice none 0 0,.slice none 0 0,.slice none 0 0,.int .i64 0,.slice none 0 0,.slice none 0 0,.slice none 0 0,.slice none 0 0,.int .i64 0,.int .i64 0,.slice none 0 0,.slice none 0 0,.slice none 0 0,.slice none 0 0,.bool false],true,[(0,1),(1,6),(7,6),(13,1),(14,3),(17,1),(18,6),(24,1)]⟩
theorem ok34:TIok Tryz.prog 34 ti34:=tq (by kernel_rfl) (fun w=>by kernel_rfl)
abbrev ti35:TI:=⟨.struct #[⟨ "Key",22,0,false, "", "",0⟩,⟨ "Plan",28,1,false, "", "",24⟩,⟨ "Back",28,7,false, "", "",136⟩,⟨ "High",3,13,false, "", "",248⟩,⟨ "State",33,14,false, "", "",256⟩,⟨ "Buffer",22,17,false, "", "",328⟩,⟨ "Next",28,18,false, "", "",352⟩,⟨ "Halted",4,24,false, "", "",464⟩],25,472,[.slice none 0 0,.int .i64 0,.int .i64 0,.slice none 0 0,.slice none 0 0,.slice none 0 0,.slice none 0 0,.int .i64 0,.int .i64 0,.slice none 0 0,.slice none 0 0,.slice none 0 0,.slice none 0 0,.int .i64 0,.slice none 0 0,.slice none 0 0,.slice none 0 0,.slice none 0 0,.int .i64 0,.int .i64 0,.slice none 0 0,.slice none 0 0,.slice none 0 0,.slice none 0 0,.bool false],true,[(0,1),(1,6),(7,6),(13,1),(14,3),(17,1),(18,6),(24,1)]⟩
theorem ok35:TIok Tryz.prog 35 ti35:=tq (by kernel_rfl) (fun w=>by kernel_rfl)
abbrev ti36:TI:=⟨.slice 22,1,24,[.slice none 0 0],false,[]⟩
theorem ok36:TIok Tryz.prog 36 ti36:=tq (by kernel_rfl) trivial
abbrev ti37:TI:=⟨.slice 76,1,24,[.slice none 0 0],false,[]⟩
theorem ok37:TIok Tryz.prog 37 ti37:=tq (by kernel_rfl) trivial
abbrev ti38:TI:=⟨.struct #[⟨ "Sectors",36,0,false, "", "",0⟩,⟨ "Waits",37,1,false, "", "",24⟩],2,48,[.slice none 0 0,.slice none 0 0],true,[(0,1),(1,1)]⟩
theorem ok38:TIok Tryz.prog 38 ti38:=tq (by kernel_rfl) (fun w=>by kernel_rfl)
abbrev ti39:TI:=⟨.struct #[⟨ "Sectors",36,0,false, "", "",0⟩,⟨ "Waits",37,1,false, "", "",24⟩],2,48,[.slice none 0 0,.slice none 0 0],true,[(0,1),(1,1)]⟩
theorem ok39:TIok Tryz.prog 39 ti39:=tq (by kernel_rfl) (fun w=>by kernel_rfl)
abbrev ti40:TI:=⟨.int .u32,1,4,[.int .u32 0],false,[]⟩
theorem ok40:TIok Tryz.prog 40 ti40:=tq (by kernel_rfl) trivial
abbrev ti41:TI:=⟨.struct #[⟨ "House",35,0,false, "", "",0⟩,⟨ "Disk",39,25,false, "", "",472⟩,⟨ "Gen",40,27,false, "", "",520⟩],28,528,[.slice none 0 0,.int .i64 0,.int .i64 0,.slice none 0 0,.slice none 0 0,.slice none 0 0,.slice none 0 0,.int .i64 0,.int .i64 0,.slice none 0 0,.slice none 0 0,.slice none 0 0,.slice none 0 0,.int .i64 0,.slice none 0 0,.slice none 0 0,.slice none 0 0,.slice none 0 0,.int .i64 0,.int .i64 0,.slice none 0 0,.slice none 0 0,.slice none 0 0,.slice none 0 0,.bool false,.slice none 0 0,.slice none 0 0,.int .u32 0],true,[(0,25),(25,2),(27,1)]⟩
theorem ok41:TIok Tryz.prog 41 ti41:=tq (by kernel_rfl) (fun w=>by kernel_rfl)
abbrev ti42:TI:=⟨.struct #[⟨ "House",35,0,false, "", "",0⟩,⟨ "Disk",39,25,false, "", "",472⟩,⟨ "Gen",40,27,false, "", "",520⟩],28,528,[.slice none 0 0,.int .i64 0,.int .i64 0,.slice none 0 0,.slice none 0 0,.slice none 0 0,.slice none 0 0,.int .i64 0,.int .i64 0,.slice none 0 0,.slice none 0 0,.slice none 0 0,.slice none 0 0,.int .i64 0,.slice none 0 0,.slice none 0 0,.slice none 0 0,.slice none 0 0,.int .i64 0,.int .i64 0,.slice none 0 0,.slice none 0 0,.slice none 0 0,.slice none 0 0,.bool false,.slice none 0 0,.slice none 0 0,.int .u32 0],true,[(0,25),(25,2),(27,1)]⟩
theorem ok42:TIok Tryz.prog 42 ti42:=tq (by kernel_rfl) (fun w=>by kernel_rfl)
abbrev ti47:TI:=⟨.int .i64,1,8,[.int .i64 0],false,[]⟩
theorem ok47:TIok Tryz.prog 47 ti47:=tq (by kernel_rfl) trivial
abbrev ti62:TI:=⟨.slice 66,1,24,[.slice none 0 0],false,[]⟩
theorem ok62:TIok Tryz.prog 62 ti62:=tq (by kernel_rfl) trivial
abbrev ti65:TI:=⟨.struct #[⟨ "Gen",40,0,false, "", "",0⟩,⟨ "Text",22,1,false, "", "",8⟩],2,32,[.int .u32 0,.slice none 0 0],true,[(0,1),(1,1)]⟩
theorem ok65:TIok Tryz.prog 65 ti65:=tq (by kernel_rfl) (fun w=>by kernel_rfl)
abbrev ti66:TI:=⟨.struct #[⟨ "Gen",40,0,false, "", "",0⟩,⟨ "Text",22,1,false, "", "",8⟩],2,32,[.int .u32 0,.slice none 0 0],true,[(0,1),(1,1)]⟩
theorem ok66:TIok Tryz.prog 66 ti66:=tq (by kernel_rfl) (fun w=>by kernel_rfl)
abbrev ti75:TI:=⟨.struct #[⟨ "At",3,0,false, "", "",0⟩,⟨ "Data",22,1,false, "", "",8⟩],2,32,[.int .i64 0,.slice none 0 0],true,[(0,1),(1,1)]⟩
theorem ok75:TIok Tryz.prog 75 ti75:=tq (by kernel_rfl) (fun w=>by kernel_rfl)
abbrev ti76:TI:=⟨.struct #[⟨ "At",3,0,false, "", "",0⟩,⟨ "Data",22,1,false, "", "",8⟩],2,32,[.int .i64 0,.slice none 0 0],true,[(0,1),(1,1)]⟩
theorem ok76:TIok Tryz.prog 76 ti76:=tq (by kernel_rfl) (fun w=>by kernel_rfl)
abbrev ti87:TI:=⟨.func #[22] #[22] false,1,8,[.nilFunc],false,[]⟩
theorem ok87:TIok Tryz.prog 87 ti87:=tq (by kernel_rfl) trivial
abbrev ti88:TI:=⟨.func #[144] #[] false,1,8,[.nilFunc],false,[]⟩
theorem ok88:TIok Tryz.prog 88 ti88:=tq (by kernel_rfl) trivial
abbrev ti89:TI:=⟨.func #[144] #[] false,1,8,[.nilFunc],false,[]⟩
theorem ok89:TIok Tryz.prog 89 ti89:=tq (by kernel_rfl) trivial
abbrev ti94:TI:=⟨.struct #[⟨ "Id",3,0,false, "", "",0⟩,⟨ "Phase",5,1,false, "", "",8⟩,⟨ "Gone",3,2,false, "", "",16⟩,⟨ "Left",3,3,false, "", "",24⟩],4,32,[.int .i64 0,.int .u8 0,.int .i64 0,.int .i64 0],true,[(0,1),(1,1),(2,1),(3,1)]⟩
theorem ok94:TIok Tryz.prog 94 ti94:=tq (by kernel_rfl) (fun w=>by kernel_rfl)
abbrev ti95:TI:=⟨.struct #[⟨ "Id",3,0,false, "", "",0⟩,⟨ "Phase",5,1,false, "", "",8⟩,⟨ "Gone",3,2,false, "", "",16⟩,⟨ "Left",3,3,false, "", "",24⟩],4,32,[.int .i64 0,.int .u8 0,.int .i64 0,.int .i64 0],true,[(0,1),(1,1),(2,1),(3,1)]⟩
theorem ok95:TIok Tryz.prog 95 ti95:=tq (by kernel_rfl) (fun w=>by kernel_rfl)
abbrev ti99:TI:=⟨.slice 3,1,24,[.slice none 0 0],false,[]⟩
theorem ok99:TIok Tryz.prog 99 ti99:=tq (by kernel_rfl) trivial
abbrev ti102:TI:=⟨.int .u64,1,8,[.int .u64 0],false,[]⟩
theorem ok102:TIok Tryz.prog 102 ti102:=tq (by kernel_rfl) trivial
abbrev ti106:TI:=⟨.slice 40,1,24,[.slice none 0 0],false,[]⟩
theorem ok106:TIok Tryz.prog 106 ti106:=tq (by kernel_rfl) trivial
abbrev ti111:TI:=⟨.func #[22,22] #[4] false,1,8,[.nilFunc],false,[]⟩
theorem ok111:TIok Tryz.prog 111 ti111:=tq (by kernel_rfl) trivial
abbrev ti112:TI:=⟨.func #[76,76] #[4] false,1,8,[.nilFunc],false,[]⟩
theorem ok112:TIok Tryz.prog 112 ti112:=tq (by kernel_rfl) trivial
abbrev ti115:TI:=⟨.func #[28] #[4] false,1,8,[.nilFunc],false,[]⟩
theorem ok115:TIok Tryz.prog 115 ti115:=tq (by kernel_rfl) trivial
abbrev ti119:TI:=⟨.func #[76] #[3] false,1,8,[.nilFunc],false,[]⟩
theorem ok119:TIok Tryz.prog 119 ti119:=tq (by kernel_rfl) trivial
abbrev ti120:TI:=⟨.func #[76] #[22] false,1,8,[.nilFunc],false,[]⟩
theorem ok120:TIok Tryz.prog 120 ti120:=tq (by kernel_rfl) trivial
abbrev ti124:TI:=⟨.func #[22] #[4] false,1,8,[.nilFunc],false,[]⟩
theorem ok124:TIok Tryz.prog 124 ti124:=tq (by kernel_rfl) trivial
abbrev ti128:TI:=⟨.func #[3] #[4] false,1,8,[.nilFunc],false,[]⟩
theorem ok128:TIok Tryz.prog 128 ti128:=tq (by kernel_rfl) trivial
abbrev ti130:TI:=⟨.struct #[⟨ "Id",3,0,false, "", "",0⟩,⟨ "Lie",3,1,false, "", "",8⟩,⟨ "Call",3,2,false, "", "",16⟩],3,24,[.int .i64 0,.int .i64 0,.int .i64 0],true,[(0,1),(1,1),(2,1)]⟩
theorem ok130:TIok Tryz.prog 130 ti130:=tq (by kernel_rfl) (fun w=>by kernel_rfl)
abbrev ti131:TI:=⟨.struct #[⟨ "Id",3,0,false, "", "",0⟩,⟨ "Lie",3,1,false, "", "",8⟩,⟨ "Call",3,2,false, "", "",16⟩],3,24,[.int .i64 0,.int .i64 0,.int .i64 0],true,[(0,1),(1,1),(2,1)]⟩
theorem ok131:TIok Tryz.prog 131 ti131:=tq (by kernel_rfl) (fun w=>by kernel_rfl)
abbrev ti136:TI:=⟨.func #[3] #[3] false,1,8,[.nilFunc],false,[]⟩
theorem ok136:TIok Tryz.prog 136 ti136:=tq (by kernel_rfl) trivial
abbrev ti143:TI:=⟨.func #[76] #[76] false,1,8,[.nilFunc],false,[]⟩
theorem ok143:TIok Tryz.prog 143 ti143:=tq (by kernel_rfl) trivial
abbrev ti144:TI:=⟨.func #[40,35] #[4] false,1,8,[.nilFunc],false,[]⟩
theorem ok144:TIok Tryz.prog 144 ti144:=tq (by kernel_rfl) trivial
abbrev ti152:TI:=⟨.slice 167,1,24,[.slice none 0 0],false,[]⟩
theorem ok152:TIok Tryz.prog 152 ti152:=tq (by kernel_rfl) trivial
abbrev ti153:TI:=⟨.struct #[⟨ "Id",3,0,false, "", "",0⟩,⟨ "Point",3,1,false, "", "",8⟩,⟨ "Ends",152,2,false, "", "",16⟩],3,40,[.int .i64 0,.int .i64 0,.slice none 0 0],true,[(0,1),(1,1),(2,1)]⟩
theorem ok153:TIok Tryz.prog 153 ti153:=tq (by kernel_rfl) (fun w=>by kernel_rfl)
abbrev ti154:TI:=⟨.struct #[⟨ "Id",3,0,false, "", "",0⟩,⟨ "Point",3,1,false, "", "",8⟩,⟨ "Ends",152,2,false, "", "",16⟩],3,40,[.int .i64 0,.int .i64 0,.slice none 0 0],true,[(0,1),(1,1),(2,1)]⟩
theorem ok154:TIok Tryz.prog 154 ti154:=tq (by kernel_rfl) (fun w=>by kernel_rfl)
abbrev ti155:TI:=⟨.struct #[⟨ "Id",3,0,false, "", "",0⟩,⟨ "Is",5,1,false, "", "",8⟩],2,16,[.int .i64 0,.int .u8 0],true,[(0,1),(1,1)]⟩
theorem ok155:TIok Tryz.prog 155 ti155:=tq (by kernel_rfl) (fun w=>by kernel_rfl)
abbrev ti156:TI:=⟨.struct #[⟨ "Id",3,0,false, "", "",0⟩,⟨ "Is",5,1,false, "", "",8⟩],2,16,[.int .i64 0,.int .u8 0],true,[(0,1),(1,1)]⟩
theorem ok156:TIok Tryz.prog 156 ti156:=tq (by kernel_rfl) (fun w=>by kernel_rfl)
abbrev ti157:TI:=⟨.struct #[⟨ "Id",3,0,false, "", "",0⟩,⟨ "Section",3,1,false, "", "",8⟩],2,16,[.int .i64 0,.int .i64 0],true,[(0,1),(1,1)]⟩
theorem ok157:TIok Tryz.prog 157 ti157:=tq (by kernel_rfl) (fun w=>by kernel_rfl)
abbrev ti158:TI:=⟨.struct #[⟨ "Id",3,0,false, "", "",0⟩,⟨ "Section",3,1,false, "", "",8⟩],2,16,[.int .i64 0,.int .i64 0],true,[(0,1),(1,1)]⟩
theorem ok158:TIok Tryz.prog 158 ti158:=tq (by kernel_rfl) (fun w=>by kernel_rfl)
abbrev ti159:TI:=⟨.slice 179,1,24,[.slice none 0 0],false,[]⟩
theorem ok159:TIok Tryz.prog 159 ti159:=tq (by kernel_rfl) trivial
abbrev ti160:TI:=⟨.struct #[⟨ "Id",3,0,false, "", "",0⟩,⟨ "Entry",3,1,false, "", "",8⟩,⟨ "Exit",3,2,false, "", "",16⟩,⟨ "Path",99,3,false, "", "",24⟩,⟨ "Over",99,4,false, "", "",48⟩,⟨ "Flanks",159,5,false, "", "",72⟩,⟨ "Timer",3,6,false, "", "",96⟩],7,104,[.int .i64 0,.int .i64 0,.int .i64 0,.slice none 0 0,.slice none 0 0,.slice none 0 0,.int .i64 0],true,[(0,1),(1,1),(2,1),(3,1),(4,1),(5,1),(6,1)]⟩
theorem ok160:TIok Tryz.prog 160 ti160:=tq (by kernel_rfl) (fun w=>by kernel_rfl)
abbrev ti161:TI:=⟨.struct #[⟨ "Id",3,0,false, "", "",0⟩,⟨ "Entry",3,1,false, "", "",8⟩,⟨ "Exit",3,2,false, "", "",16⟩,⟨ "Path",99,3,false, "", "",24⟩,⟨ "Over",99,4,false, "", "",48⟩,⟨ "Flanks",159,5,false, "", "",72⟩,⟨ "Timer",3,6,false, "", "",96⟩],7,104,[.int .i64 0,.int .i64 0,.int .i64 0,.slice none 0 0,.slice none 0 0,.slice none 0 0,.int .i64 0],true,[(0,1),(1,1),(2,1),(3,1),(4,1),(5,1),(6,1)]⟩
theorem ok161:TIok Tryz.prog 161 ti161:=tq (by kernel_rfl) (fun w=>by kernel_rfl)
abbrev ti166:TI:=⟨.struct #[⟨ "To",3,0,false, "", "",0⟩,⟨ "End",3,1,false, "", "",8⟩],2,16,[.int .i64 0,.int .i64 0],true,[(0,1),(1,1)]⟩
theorem ok166:TIok Tryz.prog 166 ti166:=tq (by kernel_rfl) (fun w=>by kernel_rfl)
abbrev ti167:TI:=⟨.struct #[⟨ "To",3,0,false, "", "",0⟩,⟨ "End",3,1,false, "", "",8⟩],2,16,[.int .i64 0,.int .i64 0],true,[(0,1),(1,1)]⟩
theorem ok167:TIok Tryz.prog 167 ti167:=tq (by kernel_rfl) (fun w=>by kernel_rfl)
abbrev ti168:TI:=⟨.struct #[⟨ "Id",3,0,false, "", "",0⟩,⟨ "Section",3,1,false, "", "",8⟩,⟨ "End",3,2,false, "", "",16⟩],3,24,[.int .i64 0,.int .i64 0,.int .i64 0],true,[(0,1),(1,1),(2,1)]⟩
theorem ok168:TIok Tryz.prog 168 ti168:=tq (by kernel_rfl) (fun w=>by kernel_rfl)
abbrev ti169:TI:=⟨.struct #[⟨ "Id",3,0,false, "", "",0⟩,⟨ "Section",3,1,false, "", "",8⟩,⟨ "End",3,2,false, "", "",16⟩],3,24,[.int .i64 0,.int .i64 0,.int .i64 0],true,[(0,1),(1,1),(2,1)]⟩
theorem ok169:TIok Tryz.prog 169 ti169:=tq (by kernel_rfl) (fun w=>by kernel_rfl)
abbrev ti174:TI:=⟨.func #[154,154] #[4] false,1,8,[.nilFunc],false,[]⟩
theorem ok174:TIok Tryz.prog 174 ti174:=tq (by kernel_rfl) trivial
abbrev ti178:TI:=⟨.struct #[⟨ "Point",3,0,false, "", "",0⟩,⟨ "Lie",3,1,false, "", "",8⟩],2,16,[.int .i64 0,.int .i64 0],true,[(0,1),(1,1)]⟩
theorem ok178:TIok Tryz.prog 178 ti178:=tq (by kernel_rfl) (fun w=>by kernel_rfl)
abbrev ti179:TI:=⟨.struct #[⟨ "Point",3,0,false, "", "",0⟩,⟨ "Lie",3,1,false, "", "",8⟩],2,16,[.int .i64 0,.int .i64 0],true,[(0,1),(1,1)]⟩
theorem ok179:TIok Tryz.prog 179 ti179:=tq (by kernel_rfl) (fun w=>by kernel_rfl)
abbrev ti180:TI:=⟨.func #[161,161] #[4] false,1,8,[.nilFunc],false,[]⟩
theorem ok180:TIok Tryz.prog 180 ti180:=tq (by kernel_rfl) trivial
abbrev ti186:TI:=⟨.func #[131,131] #[4] false,1,8,[.nilFunc],false,[]⟩
theorem ok186:TIok Tryz.prog 186 ti186:=tq (by kernel_rfl) trivial
abbrev ti187:TI:=⟨.func #[95,95] #[4] false,1,8,[.nilFunc],false,[]⟩
theorem ok187:TIok Tryz.prog 187 ti187:=tq (by kernel_rfl) trivial
abbrev ti192:TI:=⟨.slice 36,1,24,[.slice none 0 0],false,[]⟩
theorem ok192:TIok Tryz.prog 192 ti192:=tq (by kernel_rfl) trivial
abbrev ti196:TI:=⟨.slice 5,1,24,[.slice none 0 0],false,[]⟩
theorem ok196:TIok Tryz.prog 196 ti196:=tq (by kernel_rfl) trivial
abbrev ti202:TI:=⟨.func #[124] #[] false,1,8,[.nilFunc],false,[]⟩
theorem ok202:TIok Tryz.prog 202 ti202:=tq (by kernel_rfl) trivial
abbrev ti203:TI:=⟨.func #[124] #[] false,1,8,[.nilFunc],false,[]⟩
theorem ok203:TIok Tryz.prog 203 ti203:=tq (by kernel_rfl) trivial
abbrev ti205:TI:=⟨.array 128 5,128,128,List.replicate 128 (.int .u8 0),true,[]⟩
theorem ok205:TIok Tryz.prog 205 ti205:=tq (by kernel_rfl) trivial
abbrev ti206:TI:=⟨.func #[289] #[] false,1,8,[.nilFunc],false,[]⟩
theorem ok206:TIok Tryz.prog 206 ti206:=tq (by kernel_rfl) trivial
abbrev ti207:TI:=⟨.func #[289] #[] false,1,8,[.nilFunc],false,[]⟩
theorem ok207:TIok Tryz.prog 207 ti207:=tq (by kernel_rfl) trivial
abbrev ti226:TI:=⟨.pointer 228,1,8,[.pointer none],false,[]⟩
theorem ok226:TIok Tryz.prog 226 ti226:=tq (by kernel_rfl) trivial
abbrev ti227:TI:=⟨.struct #[⟨ "b",22,0,false, "", "leverframe/keep",0⟩,⟨ "at",3,1,false, "", "leverframe/keep",24⟩,⟨ "odd",4,2,false, "", "leverframe/keep",32⟩],3,40,[.slice none 0 0,.int .i64 0,.bool false],true,[(0,1),(1,1),(2,1)]⟩
theorem ok227:TIok Tryz.prog 227 ti227:=tq (by kernel_rfl) (fun w=>by kernel_rfl)
abbrev ti228:TI:=⟨.struct #[⟨ "b",22,0,false, "", "leverframe/keep",0⟩,⟨ "at",3,1,false, "", "leverframe/keep",24⟩,⟨ "odd",4,2,false, "", "leverframe/keep",32⟩],3,40,[.slice none 0 0,.int .i64 0,.bool false],true,[(0,1),(1,1),(2,1)]⟩
theorem ok228:TIok Tryz.prog 228 ti228:=tq (by kernel_rfl) (fun w=>by kernel_rfl)
abbrev ti230:TI:=⟨.func #[] #[3] false,1,8,[.nilFunc],false,[]⟩
theorem ok230:TIok Tryz.prog 230 ti230:=tq (by kernel_rfl) trivial
abbrev ti242:TI:=⟨.array 100 4,100,100,List.replicate 100 (.bool false),true,[]⟩
theorem ok242:TIok Tryz.prog 242 ti242:=tq (by kernel_rfl) trivial
abbrev ti243:TI:=⟨.array 100 3,100,800,List.replicate 100 (.int .i64 0),true,[]⟩
theorem ok243:TIok Tryz.prog 243 ti243:=tq (by kernel_rfl) trivial
abbrev ti245:TI:=⟨.slice 248,1,24,[.slice none 0 0],false,[]⟩
theorem ok245:TIok Tryz.prog 245 ti245:=tq (by kernel_rfl) trivial
abbrev ti247:TI:=⟨.struct #[⟨ "Point",3,0,false, "", "",0⟩,⟨ "Lie",3,1,false, "", "",8⟩,⟨ "At",3,2,false, "", "",16⟩],3,24,[.int .i64 0,.int .i64 0,.int .i64 0],true,[(0,1),(1,1),(2,1)]⟩
theorem ok247:TIok Tryz.prog 247 ti247:=tq (by kernel_rfl) (fun w=>by kernel_rfl)
abbrev ti248:TI:=⟨.struct #[⟨ "Point",3,0,false, "", "",0⟩,⟨ "Lie",3,1,false, "", "",8⟩,⟨ "At",3,2,false, "", "",16⟩],3,24,[.int .i64 0,.int .i64 0,.int .i64 0],true,[(0,1),(1,1),(2,1)]⟩
theorem ok248:TIok Tryz.prog 248 ti248:=tq (by kernel_rfl) (fun w=>by kernel_rfl)
abbrev ti251:TI:=⟨.int .u64,1,8,[.int .u64 0],false,[]⟩
theorem ok251:TIok Tryz.prog 251 ti251:=tq (by kernel_rfl) trivial
abbrev ti252:TI:=⟨.slice 258,1,24,[.slice none 0 0],false,[]⟩
theorem ok252:TIok Tryz.prog 252 ti252:=tq (by kernel_rfl) trivial
abbrev ti253:TI:=⟨.slice 152,1,24,[.slice none 0 0],false,[]⟩
theorem ok253:TIok Tryz.prog 253 ti253:=tq (by kernel_rfl) trivial
abbrev ti256:TI:=⟨.func #[245] #[4] false,1,8,[.nilFunc],false,[]⟩
theorem ok256:TIok Tryz.prog 256 ti256:=tq (by kernel_rfl) trivial
abbrev ti257:TI:=⟨.struct #[⟨ "Path",99,0,false, "", "",0⟩,⟨ "Over",99,1,false, "", "",24⟩,⟨ "Asks",245,2,false, "", "",48⟩,⟨ "Near",3,3,false, "", "",72⟩],4,80,[.slice none 0 0,.slice none 0 0,.slice none 0 0,.int .i64 0],true,[(0,1),(1,1),(2,1),(3,1)]⟩
theorem ok257:TIok Tryz.prog 257 ti257:=tq (by kernel_rfl) (fun w=>by kernel_rfl)
abbrev ti258:TI:=⟨.struct #[⟨ "Path",99,0,false, "", "",0⟩,⟨ "Over",99,1,false, "", "",24⟩,⟨ "Asks",245,2,false, "", "",48⟩,⟨ "Near",3,3,false, "", "",72⟩],4,80,[.slice none 0 0,.slice none 0 0,.slice none 0 0,.int .i64 0],true,[(0,1),(1,1),(2,1),(3,1)]⟩
theorem ok258:TIok Tryz.prog 258 ti258:=tq (by kernel_rfl) (fun w=>by kernel_rfl)
abbrev ti260:TI:=⟨.struct #[⟨ "Holder",243,0,false, "", "",0⟩,⟨ "Asked",243,100,false, "", "",800⟩,⟨ "Ways",252,200,false, "", "",1600⟩],201,1624,[.int .i64 0,.int .i64 0,.int .i64 0,.int .i64 0,.int .i64 0,.int .i64 0,.int .i64 0,.int .i64 0,.int .i64 0,.int .i64 0,.int .i64 0,.int .i64 0,.int .i64 0,.int .i64 0,.int .i64 0,.int .i64 0,.int .i64 0,.int .i64 0,.int .i64 0,.int .i64 0,.int .i64 0,.int .i64 0,.int .i64 0,.int .i64 0,.int .i64 0,.int .i64 0,.int .i64 0,.int .i64 0,.int .i64 0,.int .i64 0,.int .i64 0,.int .i64 0,.int .i64 0,.int .i64 0,.int .i64 0,.int .i64 0,.int .i64 0,.int .i64 0,.int .i64 0,.int .i64 0,.int .i64 0,.int .i64 0,.int .i64 0,.int .i64 0,.int .i64 0,.int .i64 0,.int .i64 0,.int .i64 0,.int .i64 0,.int .i64 0,.int .i64 0,.int .i64 0,.int .i64 0,.int .i64 0,.int .i64 0,.int .i64 0,.int .i64 0,.int .i64 0,.int .i64 0,.int .i64 0,.int .i64 0,.int .i64 0,.int .i64 0,.int .i64 0,.int .i64 0,.int .i64 0,.int .i64 0,.int .i64 0,.int .i64 0,.int .i64 0,.int .i64 0,.int .i64 0,.int .i64 0,.int .i64 0,.int .i64 0,.int .i64 0,.int .i64 0,.int .i64 0,.int .i64 0,.int .i64 0,.int .i64 0,.int .i64 0,.int .i64 0,.int .i64 0,.int .i64 0,.int .i64 0,.int .i64 0,.int .i64 0,.int .i64 0,.int .i64 0,.int .i64 0,.int .i64 0,.int .i64 0,.int .i64 0,.int .i64 0,.int .i64 0,.int .i64 0,.int .i64 0,.int .i64 0,.int .i64 0,.int .i64 0,.int .i64 0,.int .i64 0,.int .i64 0,.int .i64 0,.int .i64 0,.int .i64 0,.int .i64 0,.int .i64 0,.int .i64 0,.int .i64 0,.int .i64 0,.int .i64 0,.int .i64 0,.int .i64 0,.int .i64 0,.int .i64 0,.int .i64 0,.int .i64 0,.int .i64 0,.int .i64 0,.int .i64 0,.int .i64 0,.int .i64 0,.int .i64 0,.int .i64 0,.int .i64 0,.int .i64 0,.int .i64 0,.int .i64 0,.int .i64 0,.int .i64 0,.int .i64 0,.int .i64 0,.int .i64 0,.int .i64 0,.int .i64 0,.int .i64 0,.int .i64 0,.int .i64 0,.int .i64 0,.int .i64 0,.int .i64 0,.int .i64 0,.int .i64 0,.int .i64 0,.int .i64 0,.int .i64 0,.int .i64 0,.int .i64 0,.int .i64 0,.int .i64 0,.int .i64 0,.int .i64 0,.int .i64 0,.int .i64 0,.int .i64 0,.int .i64 0,.int .i64 0,.int .i64 0,.int .i64 0,.int .i64 0,.int .i64 0,.int .i64 0,.int .i64 0,.int .i64 0,.int .i64 0,.int .i64 0,.int .i64 0,.int .i64 0,.int .i64 0,.int .i64 0,.int .i64 0,.int .i64 0,.int .i64 0,.int .i64 0,.int .i64 0,.int .i64 0,.int .i64 0,.int .i64 0,.int .i64 0,.int .i64 0,.int .i64 0,.int .i64 0,.int .i64 0,.int .i64 0,.int .i64 0,.int .i64 0,.int .i64 0,.int .i64 0,.int .i64 0,.int .i64 0,.int .i64 0,.int .i64 0,.int .i64 0,.int .i64 0,.int .i64 0,.int .i64 0,.int .i64 0,.int .i64 0,.slice none 0 0],true,[(0,100),(100,100),(200,1)]⟩
theorem ok260:TIok Tryz.prog 260 ti260:=tq (by kernel_rfl) (fun w=>by kernel_rfl)
abbrev ti261:TI:=⟨.struct #[⟨ "Holder",243,0,false, "", "",0⟩,⟨ "Asked",243,100,false, "", "",800⟩,⟨ "Ways",252,200,false, "", "",1600⟩],201,1624,[.int .i64 0,.int .i64 0,.int .i64 0,.int .i64 0,.int .i64 0,.int .i64 0,.int .i64 0,.int .i64 0,.int .i64 0,.int .i64 0,.int .i64 0,.int .i64 0,.int .i64 0,.int .i64 0,.int .i64 0,.int .i64 0,.int .i64 0,.int .i64 0,.int .i64 0,.int .i64 0,.int .i64 0,.int .i64 0,.int .i64 0,.int .i64 0,.int .i64 0,.int .i64 0,.int .i64 0,.int .i64 0,.int .i64 0,.int .i64 0,.int .i64 0,.int .i64 0,.int .i64 0,.int .i64 0,.int .i64 0,.int .i64 0,.int .i64 0,.int .i64 0,.int .i64 0,.int .i64 0,.int .i64 0,.int .i64 0,.int .i64 0,.int .i64 0,.int .i64 0,.int .i64 0,.int .i64 0,.int .i64 0,.int .i64 0,.int .i64 0,.int .i64 0,.int .i64 0,.int .i64 0,.int .i64 0,.int .i64 0,.int .i64 0,.int .i64 0,.int .i64 0,.int .i64 0,.int .i64 0,.int .i64 0,.int .i64 0,.int .i64 0,.int .i64 0,.int .i64 0,.int .i64 0,.int .i64 0,.int .i64 0,.int .i64 0,.int .i64 0,.int .i64 0,.int .i64 0,.int .i64 0,.int .i64 0,.int .i64 0,.int .i64 0,.int .i64 0,.int .i64 0,.int .i64 0,.int .i64 0,.int .i64 0,.int .i64 0,.int .i64 0,.int .i64 0,.int .i64 0,.int .i64 0,.int .i64 0,.int .i64 0,.int .i64 0,.int .i64 0,.int .i64 0,.int .i64 0,.int .i64 0,.int .i64 0,.int .i64 0,.int .i64 0,.int .i64 0,.int .i64 0,.int .i64 0,.int .i64 0,.int .i64 0,.int .i64 0,.int .i64 0,.int .i64 0,.int .i64 0,.int .i64 0,.int .i64 0,.int .i64 0,.int .i64 0,.int .i64 0,.int .i64 0,.int .i64 0,.int .i64 0,.int .i64 0,.int .i64 0,.int .i64 0,.int .i64 0,.int .i64 0,.int .i64 0,.int .i64 0,.int .i64 0,.int .i64 0,.int .i64 0,.int .i64 0,.int .i64 0,.int .i64 0,.int .i64 0,.int .i64 0,.int .i64 0,.int .i64 0,.int .i64 0,.int .i64 0,.int .i64 0,.int .i64 0,.int .i64 0,.int .i64 0,.int .i64 0,.int .i64 0,.int .i64 0,.int .i64 0,.int .i64 0,.int .i64 0,.int .i64 0,.int .i64 0,.int .i64 0,.int .i64 0,.int .i64 0,.int .i64 0,.int .i64 0,.int .i64 0,.int .i64 0,.int .i64 0,.int .i64 0,.int .i64 0,.int .i64 0,.int .i64 0,.int .i64 0,.int .i64 0,.int .i64 0,.int .i64 0,.int .i64 0,.int .i64 0,.int .i64 0,.int .i64 0,.int .i64 0,.int .i64 0,.int .i64 0,.int .i64 0,.int .i64 0,.int .i64 0,.int .i64 0,.int .i64 0,.int .i64 0,.int .i64 0,.int .i64 0,.int .i64 0,.int .i64 0,.int .i64 0,.int .i64 0,.int .i64 0,.int .i64 0,.int .i64 0,.int .i64 0,.int .i64 0,.int .i64 0,.int .i64 0,.int .i64 0,.int .i64 0,.int .i64 0,.int .i64 0,.int .i64 0,.int .i64 0,.int .i64 0,.int .i64 0,.int .i64 0,.int .i64 0,.int .i64 0,.int .i64 0,.int .i64 0,.int .i64 0,.slice none 0 0],true,[(0,100),(100,100),(200,1)]⟩
theorem ok261:TIok Tryz.prog 261 ti261:=tq (by kernel_rfl) (fun w=>by kernel_rfl)
abbrev ti270:TI:=⟨.func #[3] #[] false,1,8,[.nilFunc],false,[]⟩
theorem ok270:TIok Tryz.prog 270 ti270:=tq (by kernel_rfl) trivial
abbrev ti272:TI:=⟨.pointer 196,1,8,[.pointer none],false,[]⟩
theorem ok272:TIok Tryz.prog 272 ti272:=tq (by kernel_rfl) trivial
abbrev ti273:TI:=⟨.func #[154] #[] false,1,8,[.nilFunc],false,[]⟩
theorem ok273:TIok Tryz.prog 273 ti273:=tq (by kernel_rfl) trivial
abbrev ti275:TI:=⟨.func #[158] #[] false,1,8,[.nilFunc],false,[]⟩
theorem ok275:TIok Tryz.prog 275 ti275:=tq (by kernel_rfl) trivial
abbrev ti277:TI:=⟨.func #[169] #[] false,1,8,[.nilFunc],false,[]⟩
theorem ok277:TIok Tryz.prog 277 ti277:=tq (by kernel_rfl) trivial
abbrev ti281:TI:=⟨.func #[179] #[] false,1,8,[.nilFunc],false,[]⟩
theorem ok281:TIok Tryz.prog 281 ti281:=tq (by kernel_rfl) trivial
abbrev ti282:TI:=⟨.func #[161] #[] false,1,8,[.nilFunc],false,[]⟩
theorem ok282:TIok Tryz.prog 282 ti282:=tq (by kernel_rfl) trivial
abbrev ti283:TI:=⟨.func #[329] #[] false,1,8,[.nilFunc],false,[]⟩
theorem ok283:TIok Tryz.prog 283 ti283:=tq (by kernel_rfl) trivial
abbrev ti284:TI:=⟨.func #[329] #[] false,1,8,[.nilFunc],false,[]⟩
theorem ok284:TIok Tryz.prog 284 ti284:=tq (by kernel_rfl) trivial
abbrev ti286:TI:=⟨.func #[] #[5] false,1,8,[.nilFunc],false,[]⟩
theorem ok286:TIok Tryz.prog 286 ti286:=tq (by kernel_rfl) trivial
abbrev ti289:TI:=⟨.func #[3,22] #[4] false,1,8,[.nilFunc],false,[]⟩
theorem ok289:TIok Tryz.prog 289 ti289:=tq (by kernel_rfl) trivial
abbrev ti313:TI:=⟨.func #[154] #[4] false,1,8,[.nilFunc],false,[]⟩
theorem ok313:TIok Tryz.prog 313 ti313:=tq (by kernel_rfl) trivial
abbrev ti318:TI:=⟨.func #[158] #[4] false,1,8,[.nilFunc],false,[]⟩
theorem ok318:TIok Tryz.prog 318 ti318:=tq (by kernel_rfl) trivial
abbrev ti320:TI:=⟨.array 3 4,3,3,[.bool false,.bool false,.bool false],true,[]⟩
theorem ok320:TIok Tryz.prog 320 ti320:=tq (by kernel_rfl) trivial
abbrev ti321:TI:=⟨.array 100 320,300,300,List.replicate 300 (.bool false),true,[]⟩
theorem ok321:TIok Tryz.prog 321 ti321:=tq (by kernel_rfl) trivial
abbrev ti326:TI:=⟨.slice 99,1,24,[.slice none 0 0],false,[]⟩
theorem ok326:TIok Tryz.prog 326 ti326:=tq (by kernel_rfl) trivial
abbrev ti329:TI:=⟨.func #[5,4] #[4] false,1,8,[.nilFunc],false,[]⟩
theorem ok329:TIok Tryz.prog 329 ti329:=tq (by kernel_rfl) trivial
abbrev ti330:TI:=⟨.array 256 40,256,1024,List.replicate 256 (.int .u32 0),true,[]⟩
theorem ok330:TIok Tryz.prog 330 ti330:=tq (by kernel_rfl) trivial
abbrev ti332:TI:=⟨.struct #[⟨ "next",230,0,false, "", "leverframe/pack",0⟩],1,8,[.nilFunc],true,[(0,1)]⟩
theorem ok332:TIok Tryz.prog 332 ti332:=tq (by kernel_rfl) (fun w=>by kernel_rfl)
abbrev ti333:TI:=⟨.struct #[⟨ "next",230,0,false, "", "leverframe/pack",0⟩],1,8,[.nilFunc],true,[(0,1)]⟩
theorem ok333:TIok Tryz.prog 333 ti333:=tq (by kernel_rfl) (fun w=>by kernel_rfl)
abbrev ti334:TI:=⟨.func #[] #[167] false,1,8,[.nilFunc],false,[]⟩
theorem ok334:TIok Tryz.prog 334 ti334:=tq (by kernel_rfl) trivial
abbrev ti336:TI:=⟨.func #[] #[154] false,1,8,[.nilFunc],false,[]⟩
theorem ok336:TIok Tryz.prog 336 ti336:=tq (by kernel_rfl) trivial
abbrev ti338:TI:=⟨.func #[] #[158] false,1,8,[.nilFunc],false,[]⟩
theorem ok338:TIok Tryz.prog 338 ti338:=tq (by kernel_rfl) trivial
abbrev ti340:TI:=⟨.func #[] #[169] false,1,8,[.nilFunc],false,[]⟩
theorem ok340:TIok Tryz.prog 340 ti340:=tq (by kernel_rfl) trivial
abbrev ti344:TI:=⟨.func #[] #[179] false,1,8,[.nilFunc],false,[]⟩
theorem ok344:TIok Tryz.prog 344 ti344:=tq (by kernel_rfl) trivial
abbrev ti345:TI:=⟨.func #[] #[161] false,1,8,[.nilFunc],false,[]⟩
theorem ok345:TIok Tryz.prog 345 ti345:=tq (by kernel_rfl) trivial
abbrev ti354:TI:=⟨.pointer 356,1,8,[.pointer none],false,[]⟩
theorem ok354:TIok Tryz.prog 354 ti354:=tq (by kernel_rfl) trivial
abbrev ti355:TI:=⟨.struct #[⟨ "plan",28,0,false, "", "leverframe/way",0⟩,⟨ "in",167,6,false, "", "leverframe/way",112⟩,⟨ "asks",245,8,false, "", "leverframe/way",128⟩,⟨ "outs",152,9,false, "", "leverframe/way",152⟩,⟨ "lost",4,10,false, "", "leverframe/way",176⟩],11,184,[.int .i64 0,.int .i64 0,.slice none 0 0,.slice none 0 0,.slice none 0 0,.slice none 0 0,.int .i64 0,.int .i64 0,.slice none 0 0,.slice none 0 0,.bool false],true,[(0,6),(6,2),(8,1),(9,1),(10,1)]⟩
theorem ok355:TIok Tryz.prog 355 ti355:=tq (by kernel_rfl) (fun w=>by kernel_rfl)
abbrev ti356:TI:=⟨.struct #[⟨ "plan",28,0,false, "", "leverframe/way",0⟩,⟨ "in",167,6,false, "", "leverframe/way",112⟩,⟨ "asks",245,8,false, "", "leverframe/way",128⟩,⟨ "outs",152,9,false, "", "leverframe/way",152⟩,⟨ "lost",4,10,false, "", "leverframe/way",176⟩],11,184,[.int .i64 0,.int .i64 0,.slice none 0 0,.slice none 0 0,.slice none 0 0,.slice none 0 0,.int .i64 0,.int .i64 0,.slice none 0 0,.slice none 0 0,.bool false],true,[(0,6),(6,2),(8,1),(9,1),(10,1)]⟩
theorem ok356:TIok Tryz.prog 356 ti356:=tq (by kernel_rfl) (fun w=>by kernel_rfl)
abbrev ti359:TI:=⟨.func #[3,167] #[4] false,1,8,[.nilFunc],false,[]⟩
theorem ok359:TIok Tryz.prog 359 ti359:=tq (by kernel_rfl) trivial
abbrev ti363:TI:=⟨.func #[156,154] #[4] false,1,8,[.nilFunc],false,[]⟩
theorem ok363:TIok Tryz.prog 363 ti363:=tq (by kernel_rfl) trivial
abbrev ti365:TI:=⟨.func #[131,158] #[4] false,1,8,[.nilFunc],false,[]⟩
theorem ok365:TIok Tryz.prog 365 ti365:=tq (by kernel_rfl) trivial
abbrev ti367:TI:=⟨.func #[95,161] #[4] false,1,8,[.nilFunc],false,[]⟩
theorem ok367:TIok Tryz.prog 367 ti367:=tq (by kernel_rfl) trivial
abbrev ti368:TI:=⟨.map 3 3,1,8,[.map none],false,[]⟩
theorem ok368:TIok Tryz.prog 368 ti368:=tq (by kernel_rfl) trivial
abbrev ti371:TI:=⟨.func #[248] #[4] false,1,8,[.nilFunc],false,[]⟩
theorem ok371:TIok Tryz.prog 371 ti371:=tq (by kernel_rfl) trivial
abbrev ti374:TI:=⟨.func #[154,3] #[3] false,1,8,[.nilFunc],false,[]⟩
theorem ok374:TIok Tryz.prog 374 ti374:=tq (by kernel_rfl) trivial
abbrev ti379:TI:=⟨.func #[169] #[4] false,1,8,[.nilFunc],false,[]⟩
theorem ok379:TIok Tryz.prog 379 ti379:=tq (by kernel_rfl) trivial
abbrev ti380:TI:=⟨.func #[40] #[40] false,1,8,[.nilFunc],false,[]⟩
theorem ok380:TIok Tryz.prog 380 ti380:=tq (by kernel_rfl) trivial
abbrev ti386:TI:=⟨.array 3 3,3,24,[.int .i64 0,.int .i64 0,.int .i64 0],true,[]⟩
theorem ok386:TIok Tryz.prog 386 ti386:=tq (by kernel_rfl) trivial
abbrev ti387:TI:=⟨.array 3 386,9,72,List.replicate 9 (.int .i64 0),true,[]⟩
theorem ok387:TIok Tryz.prog 387 ti387:=tq (by kernel_rfl) trivial
abbrev ti388:TI:=⟨.array 3 386,9,72,List.replicate 9 (.int .i64 0),true,[]⟩
theorem ok388:TIok Tryz.prog 388 ti388:=tq (by kernel_rfl) trivial
def tab:TypeId->Option TI:=fun t=>
 match t with
 |1=>some ti1
 |2=>some ti2
 |3=>some ti3
 |4=>some ti4
 |5=>some ti5
 |9=>some ti9
 |20=>some ti20
 |22=>some ti22
 |23=>some ti23
 |24=>some ti24
 |25=>some ti25
 |26=>some ti26
 |27=>some ti27
 |28=>some ti28
 |29=>some ti29
 |30=>some ti30
 |31=>some ti31
 |32=>some ti32
 |33=>some ti33
 |34=>some ti34
 |35=>some ti35
 |36=>some ti36
 |37=>some ti37
 |38=>some ti38
 |39=>some ti39
 |40=>some ti40
 |41=>some ti41
 |42=>some ti42
 |47=>some ti47
 |62=>some ti62
 |65=>some ti65
 |66=>some ti66
 |75=>some ti75
 |76=>some ti76
 |87=>some ti87
 |88=>some ti88
 |89=>some ti89
 |94=>some ti94
 |95=>some ti95
 |99=>some ti99
 |102=>some ti102
 |106=>some ti106
 |111=>some ti111
 |112=>some ti112
 |115=>some ti115
 |119=>some ti119
 |120=>some ti120
 |124=>some ti124
 |128=>some ti128
 |130=>some ti130
 |131=>some ti131
 |136=>some ti136
 |143=>some ti143
 |144=>some ti144
 |152=>some ti152
 |153=>some ti153
 |154=>some ti154
 |155=>some ti155
 |156=>some ti156
 |157=>some ti157
 |158=>some ti158
 |159=>some ti159
 |160=>some ti160
 |161=>some ti161
 |166=>some ti166
 |167=>some ti167
 |168=>some ti168
 |169=>some ti169
 |174=>some ti174
 |178=>some ti178
 |179=>some ti179
 |180=>some ti180
 |186=>some ti186
 |187=>some ti187
 |192=>some ti192
 |196=>some ti196
 |202=>some ti202
 |203=>some ti203
 |205=>some ti205
 |206=>some ti206
 |207=>some ti207
 |226=>some ti226
 |227=>some ti227
 |228=>some ti228
 |230=>some ti230
 |242=>some ti242
 |243=>some ti243
 |245=>some ti245
 |247=>some ti247
 |248=>some ti248
 |251=>some ti251
 |252=>some ti252
 |253=>some ti253
 |256=>some ti256
 |257=>some ti257
 |258=>some ti258
 |260=>some ti260
 |261=>some ti261
 |270=>some ti270
 |272=>some ti272
 |273=>some ti273
 |275=>some ti275
 |277=>some ti277
 |281=>some ti281
 |282=>some ti282
 |283=>some ti283
 |284=>some ti284
 |286=>some ti286
 |289=>some ti289
 |313=>some ti313
 |318=>some ti318
 |320=>some ti320
 |321=>some ti321
 |326=>some ti326
 |329=>some ti329
 |330=>some ti330
 |332=>some ti332
 |333=>some ti333
 |334=>some ti334
 |336=>some ti336
 |338=>some ti338
 |340=>some ti340
 |344=>some ti344
 |345=>some ti345
 |354=>some ti354
 |355=>some ti355
 |356=>some ti356
 |359=>some ti359
 |363=>some ti363
 |365=>some ti365
 |367=>some ti367
 |368=>some ti368
 |371=>some ti371
 |374=>some ti374
 |379=>some ti379
 |380=>some ti380
 |386=>some ti386
 |387=>some ti387
 |388=>some ti388
 | _=>none
theorem Xj:Qw Tryz.prog tab:=by
 intro t ti h;unfold tab at h;split at h;all_goals first|(cases h;done)|(cases h;first|exact ok1|exact ok2|exact ok3|exact ok4|exact ok5|exact ok9|exact ok20|exact ok22|exact ok23|exact ok24|exact ok25|exact ok26|exact ok27|exact ok28|exact ok29|exact ok30|exact ok31|exact ok32|exact ok33|exact ok34|exact ok35|exact ok36|exact ok37|exact ok38|exact ok39|exact ok40|exact ok41|exact ok42|exact ok47|exact ok62|exact ok65|exact ok66|exact ok75|exact ok76|exact ok87|exact ok88|exact ok89|exact ok94|exact ok95|exact ok99|exact ok102|exact ok106|exact ok111|exact ok112|exact ok115|exact ok119|exact ok120|exact ok124|exact ok128|exact ok130|exact ok131|exact ok136|exact ok143|exact ok144|exact ok152|exact ok153|exact ok154|exact ok155|exact ok156|exact ok157|exact ok158|exact ok159|exact ok160|exact ok161|exact ok166|exact ok167|exact ok168|exact ok169|exact ok174|exact ok178|exact ok179|exact ok180|exact ok186|exact ok187|exact ok192|exact ok196|exact ok202|exact ok203|exact ok205|exact ok206|exact ok207|exact ok226|exact ok227|exact ok228|exact ok230|exact ok242|exact ok243|exact ok245|exact ok247|exact ok248|exact ok251|exact ok252|exact ok253|exact ok256|exact ok257|exact ok258|exact ok260|exact ok261|exact ok270|exact ok272|exact ok273|exact ok275|exact ok277|exact ok281|exact ok282|exact ok283|exact ok284|exact ok286|exact ok289|exact ok313|exact ok318|exact ok320|exact ok321|exact ok326|exact ok329|exact ok330|exact ok332|exact ok333|exact ok334|exact ok336|exact ok338|exact ok340|exact ok344|exact ok345|exact ok354|exact ok355|exact ok356|exact ok359|exact ok363|exact ok365|exact ok367|exact ok368|exact ok371|exact ok374|exact ok379|exact ok380|exact ok386|exact ok387|exact ok388)
theorem follows:Tryz.prog.follows .mixedOrders=true:=by kernel_rfl
theorem hb0 (f:Nat) (h2:2<f) (hf:f<310):Xd Tryz.prog f=True:=Xup (n:=310) (by kernel_rfl) f h2 hf
theorem hbT:∀f:Nat,2<f->f<310->Xd Tryz.prog f=True:=hb0
theorem tb (t:Nat) (x:TI) (h:tab t=some x):tab t=some x:=h
set_option linter.defProp false in
def Y33:=aa (tb 1 ti1 rfl)<|aa (tb 2 ti2 rfl)<|aa (tb 3 ti3 rfl)<|aa (tb 4 ti4 rfl)<|aa (tb 5 ti5 rfl)<|aa (tb 9 ti9 rfl)<|aa (tb 20 ti20 rfl)<|aa (tb 22 ti22 rfl)<|aa (tb 23 ti23 rfl)<|aa (tb 24 ti24 rfl)<|aa (tb 25 ti25 rfl)<|aa (tb 26 ti26 rfl)<|aa (tb 27 ti27 rfl)<|aa (tb 28 ti28 rfl)<|aa (tb 29 ti29 rfl)<|aa (tb 30 ti30 rfl)<|aa (tb 31 ti31 rfl)<|aa (tb 32 ti32 rfl)<|aa (tb 33 ti33 rfl)<|aa (tb 34 ti34 rfl)<|aa (tb 35 ti35 rfl)<|aa (tb 36 ti36 rfl)<|aa (tb 37 ti37 rfl)<|aa (tb 38 ti38 rfl)<|aa (tb 39 ti39 rfl)<|aa (tb 40 ti40 rfl)<|aa (tb 41 ti41 rfl)<|aa (tb 42 ti42 rfl)<|aa (tb 47 ti47 rfl)<|aa (tb 62 ti62 rfl)<|aa (tb 65 ti65 rfl)<|aa (tb 66 ti66 rfl)<|aa (tb 75 ti75 rfl)<|aa (tb 76 ti76 rfl)<|aa (tb 87 ti87 rfl)<|aa (tb 88 ti88 rfl)<|aa (tb 89 ti89 rfl)<|aa (tb 94 ti94 rfl)<|aa (tb 95 ti95 rfl)<|aa (tb 99 ti99 rfl)<|aa (tb 102 ti102 rfl)<|aa (tb 106 ti106 rfl)<|aa (tb 111 ti111 rfl)<|aa (tb 112 ti112 rfl)<|aa (tb 115 ti115 rfl)<|aa (tb 119 ti119 rfl)<|aa (tb 120 ti120 rfl)<|aa (tb 124 ti124 rfl)<|aa (tb 128 ti128 rfl)<|aa (tb 130 ti130 rfl)<|aa (tb 131 ti131 rfl)<|aa (tb 136 ti136 rfl)<|aa (tb 143 ti143 rfl)<|aa (tb 144 ti144 rfl)<|aa (tb 152 ti152 rfl)<|aa (tb 153 ti153 rfl)<|aa (tb 154 ti154 rfl)<|aa (tb 155 ti155 rfl)<|aa (tb 156 ti156 rfl)<|aa (tb 157 ti157 rfl)<|aa (tb 158 ti158 rfl)<|aa (tb 159 ti159 rfl)<|aa (tb 160 ti160 rfl)<|aa (tb 161 ti161 rfl)<|aa (tb 166 ti166 rfl)<|aa (tb 167 ti167 rfl)<|aa (tb 168 ti168 rfl)<|aa (tb 169 ti169 rfl)<|aa (tb 174 ti174 rfl)<|aa (tb 178 ti178 rfl)<|aa (tb 179 ti179 rfl)<|aa (tb 180 ti180 rfl)<|aa (tb 186 ti186 rfl)<|aa (tb 187 ti187 rfl)<|aa (tb 192 ti192 rfl)<|aa (tb 196 ti196 rfl)<|aa (tb 202 ti202 rfl)<|aa (tb 203 ti203 rfl)<|aa (tb 205 ti205 rfl)<|aa (tb 206 ti206 rfl)<|aa (tb 207 ti207 rfl)<|aa (tb 226 ti226 rfl)<|aa (tb 227 ti227 rfl)<|aa (tb 228 ti228 rfl)<|aa (tb 230 ti230 rfl)<|aa (tb 242 ti242 rfl)<|aa (tb 243 ti243 rfl)<|aa (tb 245 ti245 rfl)<|aa (tb 247 ti247 rfl)<|aa (tb 248 ti248 rfl)<|aa (tb 251 ti251 rfl)<|aa (tb 252 ti252 rfl)<|aa (tb 253 ti253 rfl)<|aa (tb 256 ti256 rfl)<|aa (tb 257 ti257 rfl)<|aa (tb 258 ti258 rfl)<|aa (tb 260 ti260 rfl)<|aa (tb 261 ti261 rfl)<|aa (tb 270 ti270 rfl)<|aa (tb 272 ti272 rfl)<|aa (tb 273 ti273 rfl)<|aa (tb 275 ti275 rfl)<|aa (tb 277 ti277 rfl)<|aa (tb 281 ti281 rfl)<|aa (tb 282 ti282 rfl)<|aa (tb 283 ti283 rfl)<|aa (tb 284 ti284 rfl)<|aa (tb 286 ti286 rfl)<|aa (tb 289 ti289 rfl)<|aa (tb 313 ti313 rfl)<|aa (tb 318 ti318 rfl)<|aa (tb 320 ti320 rfl)<|aa (tb 321 ti321 rfl)<|aa (tb 326 ti326 rfl)<|aa (tb 329 ti329 rfl)<|aa (tb 330 ti330 rfl)<|aa (tb 332 ti332 rfl)<|aa (tb 333 ti333 rfl)<|aa (tb 334 ti334 rfl)<|aa (tb 336 ti336 rfl)<|aa (tb 338 ti338 rfl)<|aa (tb 340 ti340 rfl)<|aa (tb 344 ti344 rfl)<|aa (tb 345 ti345 rfl)<|aa (tb 354 ti354 rfl)<|aa (tb 355 ti355 rfl)<|aa (tb 356 ti356 rfl)<|aa (tb 359 ti359 rfl)<|aa (tb 363 ti363 rfl)<|aa (tb 365 ti365 rfl)<|aa (tb 367 ti367 rfl)<|aa (tb 368 ti368 rfl)<|aa (tb 371 ti371 rfl)<|aa (tb 374 ti374 rfl)<|aa (tb 379 ti379 rfl)<|aa (tb 380 ti380 rfl)<|aa (tb 386 ti386 rfl)<|aa (tb 387 ti387 rfl)<|(tb 388 ti388 rfl)
end Go.Proofs.YtgpdghbmiihfbaaGreat.Tab
