/-
 The table of the types of this seat, for the value-semantics layer. Written by a program (mktab.py).
-/
import Derived.Test.YtdngdjbgmojcoaaGreatZVsBits
import Derived.Test.YtdngdjbgmojcoaaGreatRows
import Derived.KernelRfl
namespace Go.Proofs.YtdngdjbgmojcoaaGreat.Tab
open Go Go.VS

set_option maxRecDepth 100000
def zv (ti:TI):Value:=if ti.agg then .agg ti.zero.toArray else ti.zero.headD .nilFunc
def plT (P:Program) (pl:List (Nat×Nat)):TypeDesc->Prop
 | .struct fs=>∀w,(fs.mapM fun f=>(do pure (f.offset,<- sizeOf f.type):Sem (Nat×Nat))).run P w= .ok pl.toArray w
 | _=>True
theorem tq {P:Program} {t:TypeId} {ti:TI} (h:((P.info? t).map fun i=>(i.size,i.bytes,i.zero),P.underlying t,ti.zero.all X0m,ti.zero.length,ti.agg,(zv ti).cells.toList)=(some (ti.size,ti.bytes,some (zv ti)),some ti.desc,true,ti.size,X24 ti.desc,ti.zero)) (hp:plT P ti.pl ti.desc):TIok P t ti:=by
 simp only[gu] at h;obtain⟨hi,hu,hl,hn,ha,hz⟩:=h;refine⟨hu,?_,hl,hn,ha,fun fs hf=>by rw[hf] at hp;exact hp⟩;cases h:P.info? t with
 |none=>rw[h] at hi;cases hi
 |some i=>
  rw[h] at hi;simp only[Option.map_some,bb,gu] at hi;exact⟨i,zv ti,rfl,hi.1,hi.2.1,hi.2.2,hz⟩
abbrev ti1:TI:=⟨.func #[] #[] false,1,8,[.nilFunc],false,[]⟩
theorem ok1:TIok Tryz.prog 1 ti1:=tq (by kernel_rfl) trivial
abbrev ti2:TI:=⟨.int .i64,1,8,[.int .i64 0],false,[]⟩
theorem ok2:TIok Tryz.prog 2 ti2:=tq (by kernel_rfl) trivial
abbrev ti3:TI:=⟨.int .i64,1,8,[.int .i64 0],false,[]⟩
theorem ok3:TIok Tryz.prog 3 ti3:=tq (by kernel_rfl) trivial
abbrev ti4:TI:=⟨.bool,1,1,[.bool false],false,[]⟩
theorem ok4:TIok Tryz.prog 4 ti4:=tq (by kernel_rfl) trivial
abbrev ti5:TI:=⟨.int .u8,1,1,[.int .u8 0],false,[]⟩
theorem ok5:TIok Tryz.prog 5 ti5:=tq (by kernel_rfl) trivial
abbrev ti9:TI:=⟨.string,1,16,[.string ByteArray.empty],false,[]⟩
theorem ok9:TIok Tryz.prog 9 ti9:=tq (by kernel_rfl) trivial
abbrev ti20:TI:=⟨.interface #[],1,16,[.nilIface],false,[]⟩
theorem ok20:TIok Tryz.prog 20 ti20:=tq (by kernel_rfl) trivial
abbrev ti22:TI:=⟨.slice 5,1,24,[.slice none 0 0],false,[]⟩
theorem ok22:TIok Tryz.prog 22 ti22:=tq (by kernel_rfl) trivial
abbrev ti23:TI:=⟨.slice 75,1,24,[.slice none 0 0],false,[]⟩
theorem ok23:TIok Tryz.prog 23 ti23:=tq (by kernel_rfl) trivial
abbrev ti24:TI:=⟨.slice 79,1,24,[.slice none 0 0],false,[]⟩
theorem ok24:TIok Tryz.prog 24 ti24:=tq (by kernel_rfl) trivial
abbrev ti25:TI:=⟨.slice 92,1,24,[.slice none 0 0],false,[]⟩
theorem ok25:TIok Tryz.prog 25 ti25:=tq (by kernel_rfl) trivial
abbrev ti26:TI:=⟨.slice 82,1,24,[.slice none 0 0],false,[]⟩
theorem ok26:TIok Tryz.prog 26 ti26:=tq (by kernel_rfl) trivial
abbrev ti27:TI:=⟨.struct #[⟨ "Version",3,0,false, "", "",0⟩,⟨ "Parent",3,1,false, "", "",8⟩,⟨ "Sections",23,2,false, "", "",16⟩,⟨ "Points",24,3,false, "", "",40⟩,⟨ "Signals",25,4,false, "", "",64⟩,⟨ "Routes",26,5,false, "", "",88⟩],6,112,[.int .i64 0,.int .i64 0,.slice none 0 0,.slice none 0 0,.slice none 0 0,.slice none 0 0],true,[(0,1),(1,1),(2,1),(3,1),(4,1),(5,1)]⟩
theorem ok27:TIok Tryz.prog 27 ti27:=tq (by kernel_rfl) (fun w=>by kernel_rfl)
abbrev ti28:TI:=⟨.struct #[⟨ "Version",3,0,false, "", "",0⟩,⟨ "Parent",3,1,false, "", "",8⟩,⟨ "Sections",23,2,false, "", "",16⟩,⟨ "Points",24,3,false, "", "",40⟩,⟨ "Signals",25,4,false, "", "",64⟩,⟨ "Routes",26,5,false, "", "",88⟩],6,112,[.int .i64 0,.int .i64 0,.slice none 0 0,.slice none 0 0,.slice none 0 0,.slice none 0 0],true,[(0,1),(1,1),(2,1),(3,1),(4,1),(5,1)]⟩
theorem ok28:TIok Tryz.prog 28 ti28:=tq (by kernel_rfl) (fun w=>by kernel_rfl)
abbrev ti29:TI:=⟨.slice 77,1,24,[.slice none 0 0],false,[]⟩
theorem ok29:TIok Tryz.prog 29 ti29:=tq (by kernel_rfl) trivial
abbrev ti30:TI:=⟨.slice 63,1,24,[.slice none 0 0],false,[]⟩
theorem ok30:TIok Tryz.prog 30 ti30:=tq (by kernel_rfl) trivial
abbrev ti31:TI:=⟨.slice 65,1,24,[.slice none 0 0],false,[]⟩
theorem ok31:TIok Tryz.prog 31 ti31:=tq (by kernel_rfl) trivial
abbrev ti32:TI:=⟨.struct #[⟨ "Tracks",29,0,false, "", "",0⟩,⟨ "Switches",30,1,false, "", "",24⟩,⟨ "Locks",31,2,false, "", "",48⟩],3,72,[.slice none 0 0,.slice none 0 0,.slice none 0 0],true,[(0,1),(1,1),(2,1)]⟩
theorem ok32:TIok Tryz.prog 32 ti32:=tq (by kernel_rfl) (fun w=>by kernel_rfl)
abbrev ti33:TI:=⟨.struct #[⟨ "Tracks",29,0,false, "", "",0⟩,⟨ "Switches",30,1,false, "", "",24⟩,⟨ "Locks",31,2,false, "", "",48⟩],3,72,[.slice none 0 0,.slice none 0 0,.slice none 0 0],true,[(0,1),(1,1),(2,1)]⟩
theorem ok33:TIok Tryz.prog 33 ti33:=tq (by kernel_rfl) (fun w=>by kernel_rfl)
abbrev ti34:TI:=⟨.struct #[⟨ "Key",22,0,false, "", "",0⟩,⟨ "Plan",28,1,false, "", "",24⟩,⟨ "Back",28,7,false, "", "",136⟩,⟨ "High",3,13,false, "", "",248⟩,⟨ "State",33,14,false, "", "",256⟩,⟨ "Buffer",22,17,false, "", "",328⟩,⟨ "Next",28,18,false, "", "",352⟩,⟨ "Halted",4,24,false, "", "",464⟩],25,472,[.slice none 0 0,.int .i64 0,.int .i64 0,.slice none 0 0,.slice none 0 0,.slice none 0 0,.slice none 0 0,.int .i64 0,.int .i64 0,.slice none 0 0,.slice none 0 0,.slice none 0 0,.slice none 0 0,.int .i64 0,.slice none 0 0,.slice none 0 0,.slice none 0 0,.slice none 0 0,.int .i64 0,.int .i64 0,.slice none 0 0,.slice none 0 0,.slice none 0 0,.slice none 0 0,.bool false],true,[(0,1),(1,6),(7,6),(13,1),(14,3),(17,1),(18,6),(24,1)]⟩
theorem ok34:TIok Tryz.prog 34 ti34:=tq (by kernel_rfl) (fun w=>by kernel_rfl)
abbrev ti35:TI:=⟨.struct #[⟨ "Key",22,0,false, "", "",0⟩,⟨ "Plan",28,1,false, "", "",24⟩,⟨ "Back",28,7,false, "", "",136⟩,⟨ "High",3,13,false, "", "",248⟩,⟨ "State",33,14,false, "", "",256⟩,⟨ "Buffer",22,17,false, "", "",328⟩,⟨ "Next",28,18,false, "", "",352⟩,⟨ "Halted",4,24,false, "", "",464⟩],25,472,[.slice none 0 0,.int .i64 0,.int .i64 0,.slice none 0 0,.slice none 0 0,.slice none 0 0,.slice none 0 0,.int .i64 0,.int .i64 0,.slice none 0 0,.slice none 0 0,.slice none 0 0,.slice none 0 0,.int .i64 0,.slice none 0 0,.slice none 0 0,.slice none 0 0,.slice none 0 0,.int .i64 0,.int .i64 0,.slice none 0 0,.slice none 0 0,.slice none 0 0,.slice none 0 0,.bool false],true,[(0,1),(1,6),(7,6),(13,1),(14,3),(17,1),(18,6),(24,1)]⟩
theorem ok35:TIok Tryz.prog 35 ti35:=tq (by kernel_rfl) (fun w=>by kernel_rfl)
abbrev ti37:TI:=⟨.int .i64,1,8,[.int .i64 0],false,[]⟩
theorem ok37:TIok Tryz.prog 37 ti37:=tq (by kernel_rfl) trivial
abbrev ti59:TI:=⟨.slice 22,1,24,[.slice none 0 0],false,[]⟩
theorem ok59:TIok Tryz.prog 59 ti59:=tq (by kernel_rfl) trivial
abbrev ti61:TI:=⟨.slice 3,1,24,[.slice none 0 0],false,[]⟩
theorem ok61:TIok Tryz.prog 61 ti61:=tq (by kernel_rfl) trivial
abbrev ti62:TI:=⟨.struct #[⟨ "Id",3,0,false, "", "",0⟩,⟨ "Lie",3,1,false, "", "",8⟩,⟨ "Call",3,2,false, "", "",16⟩],3,24,[.int .i64 0,.int .i64 0,.int .i64 0],true,[(0,1),(1,1),(2,1)]⟩
theorem ok62:TIok Tryz.prog 62 ti62:=tq (by kernel_rfl) (fun w=>by kernel_rfl)
abbrev ti63:TI:=⟨.struct #[⟨ "Id",3,0,false, "", "",0⟩,⟨ "Lie",3,1,false, "", "",8⟩,⟨ "Call",3,2,false, "", "",16⟩],3,24,[.int .i64 0,.int .i64 0,.int .i64 0],true,[(0,1),(1,1),(2,1)]⟩
theorem ok63:TIok Tryz.prog 63 ti63:=tq (by kernel_rfl) (fun w=>by kernel_rfl)
abbrev ti64:TI:=⟨.struct #[⟨ "Id",3,0,false, "", "",0⟩,⟨ "Phase",5,1,false, "", "",8⟩,⟨ "Gone",3,2,false, "", "",16⟩,⟨ "Left",3,3,false, "", "",24⟩],4,32,[.int .i64 0,.int .u8 0,.int .i64 0,.int .i64 0],true,[(0,1),(1,1),(2,1),(3,1)]⟩
theorem ok64:TIok Tryz.prog 64 ti64:=tq (by kernel_rfl) (fun w=>by kernel_rfl)
abbrev ti65:TI:=⟨.struct #[⟨ "Id",3,0,false, "", "",0⟩,⟨ "Phase",5,1,false, "", "",8⟩,⟨ "Gone",3,2,false, "", "",16⟩,⟨ "Left",3,3,false, "", "",24⟩],4,32,[.int .i64 0,.int .u8 0,.int .i64 0,.int .i64 0],true,[(0,1),(1,1),(2,1),(3,1)]⟩
theorem ok65:TIok Tryz.prog 65 ti65:=tq (by kernel_rfl) (fun w=>by kernel_rfl)
abbrev ti68:TI:=⟨.pointer 70,1,8,[.pointer none],false,[]⟩
theorem ok68:TIok Tryz.prog 68 ti68:=tq (by kernel_rfl) trivial
abbrev ti69:TI:=⟨.struct #[⟨ "b",22,0,false, "", "leverframe/keep",0⟩,⟨ "at",3,1,false, "", "leverframe/keep",24⟩,⟨ "odd",4,2,false, "", "leverframe/keep",32⟩],3,40,[.slice none 0 0,.int .i64 0,.bool false],true,[(0,1),(1,1),(2,1)]⟩
theorem ok69:TIok Tryz.prog 69 ti69:=tq (by kernel_rfl) (fun w=>by kernel_rfl)
abbrev ti70:TI:=⟨.struct #[⟨ "b",22,0,false, "", "leverframe/keep",0⟩,⟨ "at",3,1,false, "", "leverframe/keep",24⟩,⟨ "odd",4,2,false, "", "leverframe/keep",32⟩],3,40,[.slice none 0 0,.int .i64 0,.bool false],true,[(0,1),(1,1),(2,1)]⟩
theorem ok70:TIok Tryz.prog 70 ti70:=tq (by kernel_rfl) (fun w=>by kernel_rfl)
abbrev ti72:TI:=⟨.func #[] #[3] false,1,8,[.nilFunc],false,[]⟩
theorem ok72:TIok Tryz.prog 72 ti72:=tq (by kernel_rfl) trivial
abbrev ti73:TI:=⟨.slice 138,1,24,[.slice none 0 0],false,[]⟩
theorem ok73:TIok Tryz.prog 73 ti73:=tq (by kernel_rfl) trivial
abbrev ti74:TI:=⟨.struct #[⟨ "Id",3,0,false, "", "",0⟩,⟨ "Point",3,1,false, "", "",8⟩,⟨ "Ends",73,2,false, "", "",16⟩],3,40,[.int .i64 0,.int .i64 0,.slice none 0 0],true,[(0,1),(1,1),(2,1)]⟩
theorem ok74:TIok Tryz.prog 74 ti74:=tq (by kernel_rfl) (fun w=>by kernel_rfl)
abbrev ti75:TI:=⟨.struct #[⟨ "Id",3,0,false, "", "",0⟩,⟨ "Point",3,1,false, "", "",8⟩,⟨ "Ends",73,2,false, "", "",16⟩],3,40,[.int .i64 0,.int .i64 0,.slice none 0 0],true,[(0,1),(1,1),(2,1)]⟩
theorem ok75:TIok Tryz.prog 75 ti75:=tq (by kernel_rfl) (fun w=>by kernel_rfl)
abbrev ti76:TI:=⟨.struct #[⟨ "Id",3,0,false, "", "",0⟩,⟨ "Is",5,1,false, "", "",8⟩],2,16,[.int .i64 0,.int .u8 0],true,[(0,1),(1,1)]⟩
theorem ok76:TIok Tryz.prog 76 ti76:=tq (by kernel_rfl) (fun w=>by kernel_rfl)
abbrev ti77:TI:=⟨.struct #[⟨ "Id",3,0,false, "", "",0⟩,⟨ "Is",5,1,false, "", "",8⟩],2,16,[.int .i64 0,.int .u8 0],true,[(0,1),(1,1)]⟩
theorem ok77:TIok Tryz.prog 77 ti77:=tq (by kernel_rfl) (fun w=>by kernel_rfl)
abbrev ti78:TI:=⟨.struct #[⟨ "Id",3,0,false, "", "",0⟩,⟨ "Section",3,1,false, "", "",8⟩],2,16,[.int .i64 0,.int .i64 0],true,[(0,1),(1,1)]⟩
theorem ok78:TIok Tryz.prog 78 ti78:=tq (by kernel_rfl) (fun w=>by kernel_rfl)
abbrev ti79:TI:=⟨.struct #[⟨ "Id",3,0,false, "", "",0⟩,⟨ "Section",3,1,false, "", "",8⟩],2,16,[.int .i64 0,.int .i64 0],true,[(0,1),(1,1)]⟩
theorem ok79:TIok Tryz.prog 79 ti79:=tq (by kernel_rfl) (fun w=>by kernel_rfl)
abbrev ti80:TI:=⟨.slice 142,1,24,[.slice none 0 0],false,[]⟩
theorem ok80:TIok Tryz.prog 80 ti80:=tq (by kernel_rfl) trivial
abbrev ti81:TI:=⟨.struct #[⟨ "Id",3,0,false, "", "",0⟩,⟨ "Entry",3,1,false, "", "",8⟩,⟨ "Exit",3,2,false, "", "",16⟩,⟨ "Path",61,3,false, "", "",24⟩,⟨ "Over",61,4,false, "", "",48⟩,⟨ "Flanks",80,5,false, "", "",72⟩,⟨ "Timer",3,6,false, "", "",96⟩],7,104,[.int .i64 0,.int .i64 0,.int .i64 0,.slice none 0 0,.slice none 0 0,.slice none 0 0,.int .i64 0],true,[(0,1),(1,1),(2,1),(3,1),(4,1),(5,1),(6,1)]⟩
theorem ok81:TIok Tryz.prog 81 ti81:=tq (by kernel_rfl) (fun w=>by kernel_rfl)
abbrev ti82:TI:=⟨.struct #[⟨ "Id",3,0,false, "", "",0⟩,⟨ "Entry",3,1,false, "", "",8⟩,⟨ "Exit",3,2,false, "", "",16⟩,⟨ "Path",61,3,false, "", "",24⟩,⟨ "Over",61,4,false, "", "",48⟩,⟨ "Flanks",80,5,false, "", "",72⟩,⟨ "Timer",3,6,false, "", "",96⟩],7,104,[.int .i64 0,.int .i64 0,.int .i64 0,.slice none 0 0,.slice none 0 0,.slice none 0 0,.int .i64 0],true,[(0,1),(1,1),(2,1),(3,1),(4,1),(5,1),(6,1)]⟩
theorem ok82:TIok Tryz.prog 82 ti82:=tq (by kernel_rfl) (fun w=>by kernel_rfl)
abbrev ti91:TI:=⟨.struct #[⟨ "Id",3,0,false, "", "",0⟩,⟨ "Section",3,1,false, "", "",8⟩,⟨ "End",3,2,false, "", "",16⟩],3,24,[.int .i64 0,.int .i64 0,.int .i64 0],true,[(0,1),(1,1),(2,1)]⟩
theorem ok91:TIok Tryz.prog 91 ti91:=tq (by kernel_rfl) (fun w=>by kernel_rfl)
abbrev ti92:TI:=⟨.struct #[⟨ "Id",3,0,false, "", "",0⟩,⟨ "Section",3,1,false, "", "",8⟩,⟨ "End",3,2,false, "", "",16⟩],3,24,[.int .i64 0,.int .i64 0,.int .i64 0],true,[(0,1),(1,1),(2,1)]⟩
theorem ok92:TIok Tryz.prog 92 ti92:=tq (by kernel_rfl) (fun w=>by kernel_rfl)
abbrev ti93:TI:=⟨.func #[82,82] #[4] false,1,8,[.nilFunc],false,[]⟩
theorem ok93:TIok Tryz.prog 93 ti93:=tq (by kernel_rfl) trivial
abbrev ti94:TI:=⟨.func #[63,63] #[4] false,1,8,[.nilFunc],false,[]⟩
theorem ok94:TIok Tryz.prog 94 ti94:=tq (by kernel_rfl) trivial
abbrev ti95:TI:=⟨.func #[65,65] #[4] false,1,8,[.nilFunc],false,[]⟩
theorem ok95:TIok Tryz.prog 95 ti95:=tq (by kernel_rfl) trivial
abbrev ti100:TI:=⟨.func #[30,30] #[4] false,1,8,[.nilFunc],false,[]⟩
theorem ok100:TIok Tryz.prog 100 ti100:=tq (by kernel_rfl) trivial
abbrev ti103:TI:=⟨.slice 5,1,24,[.slice none 0 0],false,[]⟩
theorem ok103:TIok Tryz.prog 103 ti103:=tq (by kernel_rfl) trivial
abbrev ti123:TI:=⟨.slice 130,1,24,[.slice none 0 0],false,[]⟩
theorem ok123:TIok Tryz.prog 123 ti123:=tq (by kernel_rfl) trivial
abbrev ti124:TI:=⟨.slice 73,1,24,[.slice none 0 0],false,[]⟩
theorem ok124:TIok Tryz.prog 124 ti124:=tq (by kernel_rfl) trivial
abbrev ti128:TI:=⟨.slice 179,1,24,[.slice none 0 0],false,[]⟩
theorem ok128:TIok Tryz.prog 128 ti128:=tq (by kernel_rfl) trivial
abbrev ti129:TI:=⟨.struct #[⟨ "Path",61,0,false, "", "",0⟩,⟨ "Over",61,1,false, "", "",24⟩,⟨ "Asks",128,2,false, "", "",48⟩,⟨ "Near",3,3,false, "", "",72⟩],4,80,[.slice none 0 0,.slice none 0 0,.slice none 0 0,.int .i64 0],true,[(0,1),(1,1),(2,1),(3,1)]⟩
theorem ok129:TIok Tryz.prog 129 ti129:=tq (by kernel_rfl) (fun w=>by kernel_rfl)
abbrev ti130:TI:=⟨.struct #[⟨ "Path",61,0,false, "", "",0⟩,⟨ "Over",61,1,false, "", "",24⟩,⟨ "Asks",128,2,false, "", "",48⟩,⟨ "Near",3,3,false, "", "",72⟩],4,80,[.slice none 0 0,.slice none 0 0,.slice none 0 0,.int .i64 0],true,[(0,1),(1,1),(2,1),(3,1)]⟩
theorem ok130:TIok Tryz.prog 130 ti130:=tq (by kernel_rfl) (fun w=>by kernel_rfl)
abbrev ti132:TI:=⟨.array 100 3,100,800,List.replicate 100 (.int .i64 0),true,[]⟩
theorem ok132:TIok Tryz.prog 132 ti132:=tq (by kernel_rfl) trivial
abbrev ti133:TI:=⟨.struct #[⟨ "Holder",132,0,false, "", "",0⟩,⟨ "Asked",132,100,false, "", "",800⟩,⟨ "Ways",123,200,false, "", "",1600⟩],201,1624,[.int .i64 0,.int .i64 0,.int .i64 0,.int .i64 0,.int .i64 0,.int .i64 0,.int .i64 0,.int .i64 0,.int .i64 0,.int .i64 0,.int .i64 0,.int .i64 0,.int .i64 0,.int .i64 0,.int .i64 0,.int .i64 0,.int .i64 0,.int .i64 0,.int .i64 0,.int .i64 0,.int .i64 0,.int .i64 0,.int .i64 0,.int .i64 0,.int .i64 0,.int .i64 0,.int .i64 0,.int .i64 0,.int .i64 0,.int .i64 0,.int .i64 0,.int .i64 0,.int .i64 0,.int .i64 0,.int .i64 0,.int .i64 0,.int .i64 0,.int .i64 0,.int .i64 0,.int .i64 0,.int .i64 0,.int .i64 0,.int .i64 0,.int .i64 0,.int .i64 0,.int .i64 0,.int .i64 0,.int .i64 0,.int .i64 0,.int .i64 0,.int .i64 0,.int .i64 0,.int .i64 0,.int .i64 0,.int .i64 0,.int .i64 0,.int .i64 0,.int .i64 0,.int .i64 0,.int .i64 0,.int .i64 0,.int .i64 0,.int .i64 0,.int .i64 0,.int .i64 0,.int .i64 0,.int .i64 0,.int .i64 0,.int .i64 0,.int .i64 0,.int .i64 0,.int .i64 0,.int .i64 0,.int .i64 0,.int .i64 0,.int .i64 0,.int .i64 0,.int .i64 0,.int .i64 0,.int .i64 0,.int .i64 0,.int .i64 0,.int .i64 0,.int .i64 0,.int .i64 0,.int .i64 0,.int .i64 0,.int .i64 0,.int .i64 0,.int .i64 0,.int .i64 0,.int .i64 0,.int .i64 0,.int .i64 0,.int .i64 0,.int .i64 0,.int .i64 0,.int .i64 0,.int .i64 0,.int .i64 0,.int .i64 0,.int .i64 0,.int .i64 0,.int .i64 0,.int .i64 0,.int .i64 0,.int .i64 0,.int .i64 0,.int .i64 0,.int .i64 0,.int .i64 0,.int .i64 0,.int .i64 0,.int .i64 0,.int .i64 0,.int .i64 0,.int .i64 0,.int .i64 0,.int .i64 0,.int .i64 0,.int .i64 0,.int .i64 0,.int .i64 0,.int .i64 0,.int .i64 0,.int .i64 0,.int .i64 0,.int .i64 0,.int .i64 0,.int .i64 0,.int .i64 0,.int .i64 0,.int .i64 0,.int .i64 0,.int .i64 0,.int .i64 0,.int .i64 0,.int .i64 0,.int .i64 0,.int .i64 0,.int .i64 0,.int .i64 0,.int .i64 0,.int .i64 0,.int .i64 0,.int .i64 0,.int .i64 0,.int .i64 0,.int .i64 0,.int .i64 0,.int .i64 0,.int .i64 0,.int .i64 0,.int .i64 0,.int .i64 0,.int .i64 0,.int .i64 0,.int .i64 0,.int .i64 0,.int .i64 0,.int .i64 0,.int .i64 0,.int .i64 0,.int .i64 0,.int .i64 0,.int .i64 0,.int .i64 0,.int .i64 0,.int .i64 0,.int .i64 0,.int .i64 0,.int .i64 0,.int .i64 0,.int .i64 0,.int .i64 0,.int .i64 0,.int .i64 0,.int .i64 0,.int .i64 0,.int .i64 0,.int .i64 0,.int .i64 0,.int .i64 0,.int .i64 0,.int .i64 0,.int .i64 0,.int .i64 0,.int .i64 0,.int .i64 0,.int .i64 0,.int .i64 0,.int .i64 0,.int .i64 0,.int .i64 0,.int .i64 0,.int .i64 0,.int .i64 0,.int .i64 0,.int .i64 0,.int .i64 0,.slice none 0 0],true,[(0,100),(100,100),(200,1)]⟩
theorem ok133:TIok Tryz.prog 133 ti133:=tq (by kernel_rfl) (fun w=>by kernel_rfl)
abbrev ti134:TI:=⟨.struct #[⟨ "Holder",132,0,false, "", "",0⟩,⟨ "Asked",132,100,false, "", "",800⟩,⟨ "Ways",123,200,false, "", "",1600⟩],201,1624,[.int .i64 0,.int .i64 0,.int .i64 0,.int .i64 0,.int .i64 0,.int .i64 0,.int .i64 0,.int .i64 0,.int .i64 0,.int .i64 0,.int .i64 0,.int .i64 0,.int .i64 0,.int .i64 0,.int .i64 0,.int .i64 0,.int .i64 0,.int .i64 0,.int .i64 0,.int .i64 0,.int .i64 0,.int .i64 0,.int .i64 0,.int .i64 0,.int .i64 0,.int .i64 0,.int .i64 0,.int .i64 0,.int .i64 0,.int .i64 0,.int .i64 0,.int .i64 0,.int .i64 0,.int .i64 0,.int .i64 0,.int .i64 0,.int .i64 0,.int .i64 0,.int .i64 0,.int .i64 0,.int .i64 0,.int .i64 0,.int .i64 0,.int .i64 0,.int .i64 0,.int .i64 0,.int .i64 0,.int .i64 0,.int .i64 0,.int .i64 0,.int .i64 0,.int .i64 0,.int .i64 0,.int .i64 0,.int .i64 0,.int .i64 0,.int .i64 0,.int .i64 0,.int .i64 0,.int .i64 0,.int .i64 0,.int .i64 0,.int .i64 0,.int .i64 0,.int .i64 0,.int .i64 0,.int .i64 0,.int .i64 0,.int .i64 0,.int .i64 0,.int .i64 0,.int .i64 0,.int .i64 0,.int .i64 0,.int .i64 0,.int .i64 0,.int .i64 0,.int .i64 0,.int .i64 0,.int .i64 0,.int .i64 0,.int .i64 0,.int .i64 0,.int .i64 0,.int .i64 0,.int .i64 0,.int .i64 0,.int .i64 0,.int .i64 0,.int .i64 0,.int .i64 0,.int .i64 0,.int .i64 0,.int .i64 0,.int .i64 0,.int .i64 0,.int .i64 0,.int .i64 0,.int .i64 0,.int .i64 0,.int .i64 0,.int .i64 0,.int .i64 0,.int .i64 0,.int .i64 0,.int .i64 0,.int .i64 0,.int .i64 0,.int .i64 0,.int .i64 0,.int .i64 0,.int .i64 0,.int .i64 0,.int .i64 0,.int .i64 0,.int .i64 0,.int .i64 0,.int .i64 0,.int .i64 0,.int .i64 0,.int .i64 0,.int .i64 0,.int .i64 0,.int .i64 0,.int .i64 0,.int .i64 0,.int .i64 0,.int .i64 0,.int .i64 0,.int .i64 0,.int .i64 0,.int .i64 0,.int .i64 0,.int .i64 0,.int .i64 0,.int .i64 0,.int .i64 0,.int .i64 0,.int .i64 0,.int .i64 0,.int .i64 0,.int .i64 0,.int .i64 0,.int .i64 0,.int .i64 0,.int .i64 0,.int .i64 0,.int .i64 0,.int .i64 0,.int .i64 0,.int .i64 0,.int .i64 0,.int .i64 0,.int .i64 0,.int .i64 0,.int .i64 0,.int .i64 0,.int .i64 0,.int .i64 0,.int .i64 0,.int .i64 0,.int .i64 0,.int .i64 0,.int .i64 0,.int .i64 0,.int .i64 0,.int .i64 0,.int .i64 0,.int .i64 0,.int .i64 0,.int .i64 0,.int .i64 0,.int .i64 0,.int .i64 0,.int .i64 0,.int .i64 0,.int .i64 0,.int .i64 0,.int .i64 0,.int .i64 0,.int .i64 0,.int .i64 0,.int .i64 0,.int .i64 0,.int .i64 0,.int .i64 0,.int .i64 0,.int .i64 0,.int .i64 0,.int .i64 0,.int .i64 0,.int .i64 0,.int .i64 0,.int .i64 0,.int .i64 0,.int .i64 0,.int .i64 0,.int .i64 0,.int .i64 0,.int .i64 0,.slice none 0 0],true,[(0,100),(100,100),(200,1)]⟩
theorem ok134:TIok Tryz.prog 134 ti134:=tq (by kernel_rfl) (fun w=>by kernel_rfl)
abbrev ti137:TI:=⟨.struct #[⟨ "To",3,0,false, "", "",0⟩,⟨ "End",3,1,false, "", "",8⟩],2,16,[.int .i64 0,.int .i64 0],true,[(0,1),(1,1)]⟩
theorem ok137:TIok Tryz.prog 137 ti137:=tq (by kernel_rfl) (fun w=>by kernel_rfl)
abbrev ti138:TI:=⟨.struct #[⟨ "To",3,0,false, "", "",0⟩,⟨ "End",3,1,false, "", "",8⟩],2,16,[.int .i64 0,.int .i64 0],true,[(0,1),(1,1)]⟩
theorem ok138:TIok Tryz.prog 138 ti138:=tq (by kernel_rfl) (fun w=>by kernel_rfl)
abbrev ti139:TI:=⟨.func #[75,75] #[4] false,1,8,[.nilFunc],false,[]⟩
theorem ok139:TIok Tryz.prog 139 ti139:=tq (by kernel_rfl) trivial
abbrev ti141:TI:=⟨.struct #[⟨ "Point",3,0,false, "", "",0⟩,⟨ "Lie",3,1,false, "", "",8⟩],2,16,[.int .i64 0,.int .i64 0],true,[(0,1),(1,1)]⟩
theorem ok141:TIok Tryz.prog 141 ti141:=tq (by kernel_rfl) (fun w=>by kernel_rfl)
abbrev ti142:TI:=⟨.struct #[⟨ "Point",3,0,false, "", "",0⟩,⟨ "Lie",3,1,false, "", "",8⟩],2,16,[.int .i64 0,.int .i64 0],true,[(0,1),(1,1)]⟩
theorem ok142:TIok Tryz.prog 142 ti142:=tq (by kernel_rfl) (fun w=>by kernel_rfl)
abbrev ti152:TI:=⟨.func #[3] #[] false,1,8,[.nilFunc],false,[]⟩
theorem ok152:TIok Tryz.prog 152 ti152:=tq (by kernel_rfl) trivial
abbrev ti154:TI:=⟨.pointer 103,1,8,[.pointer none],false,[]⟩
theorem ok154:TIok Tryz.prog 154 ti154:=tq (by kernel_rfl) trivial
abbrev ti155:TI:=⟨.func #[75] #[] false,1,8,[.nilFunc],false,[]⟩
theorem ok155:TIok Tryz.prog 155 ti155:=tq (by kernel_rfl) trivial
abbrev ti157:TI:=⟨.func #[79] #[] false,1,8,[.nilFunc],false,[]⟩
theorem ok157:TIok Tryz.prog 157 ti157:=tq (by kernel_rfl) trivial
abbrev ti159:TI:=⟨.func #[92] #[] false,1,8,[.nilFunc],false,[]⟩
theorem ok159:TIok Tryz.prog 159 ti159:=tq (by kernel_rfl) trivial
abbrev ti163:TI:=⟨.func #[142] #[] false,1,8,[.nilFunc],false,[]⟩
theorem ok163:TIok Tryz.prog 163 ti163:=tq (by kernel_rfl) trivial
abbrev ti164:TI:=⟨.func #[82] #[] false,1,8,[.nilFunc],false,[]⟩
theorem ok164:TIok Tryz.prog 164 ti164:=tq (by kernel_rfl) trivial
abbrev ti171:TI:=⟨.func #[227] #[] false,1,8,[.nilFunc],false,[]⟩
theorem ok171:TIok Tryz.prog 171 ti171:=tq (by kernel_rfl) trivial
abbrev ti172:TI:=⟨.func #[227] #[] false,1,8,[.nilFunc],false,[]⟩
theorem ok172:TIok Tryz.prog 172 ti172:=tq (by kernel_rfl) trivial
abbrev ti175:TI:=⟨.array 100 4,100,100,List.replicate 100 (.bool false),true,[]⟩
theorem ok175:TIok Tryz.prog 175 ti175:=tq (by kernel_rfl) trivial
abbrev ti178:TI:=⟨.struct #[⟨ "Point",3,0,false, "", "",0⟩,⟨ "Lie",3,1,false, "", "",8⟩,⟨ "At",3,2,false, "", "",16⟩],3,24,[.int .i64 0,.int .i64 0,.int .i64 0],true,[(0,1),(1,1),(2,1)]⟩
theorem ok178:TIok Tryz.prog 178 ti178:=tq (by kernel_rfl) (fun w=>by kernel_rfl)
abbrev ti179:TI:=⟨.struct #[⟨ "Point",3,0,false, "", "",0⟩,⟨ "Lie",3,1,false, "", "",8⟩,⟨ "At",3,2,false, "", "",16⟩],3,24,[.int .i64 0,.int .i64 0,.int .i64 0],true,[(0,1),(1,1),(2,1)]⟩
theorem ok179:TIok Tryz.prog 179 ti179:=tq (by kernel_rfl) (fun w=>by kernel_rfl)
abbrev ti183:TI:=⟨.struct #[⟨ "next",72,0,false, "", "leverframe/pack",0⟩],1,8,[.nilFunc],true,[(0,1)]⟩
theorem ok183:TIok Tryz.prog 183 ti183:=tq (by kernel_rfl) (fun w=>by kernel_rfl)
abbrev ti184:TI:=⟨.struct #[⟨ "next",72,0,false, "", "leverframe/pack",0⟩],1,8,[.nilFunc],true,[(0,1)]⟩
theorem ok184:TIok Tryz.prog 184 ti184:=tq (by kernel_rfl) (fun w=>by kernel_rfl)
abbrev ti185:TI:=⟨.func #[] #[138] false,1,8,[.nilFunc],false,[]⟩
theorem ok185:TIok Tryz.prog 185 ti185:=tq (by kernel_rfl) trivial
abbrev ti187:TI:=⟨.func #[] #[75] false,1,8,[.nilFunc],false,[]⟩
theorem ok187:TIok Tryz.prog 187 ti187:=tq (by kernel_rfl) trivial
abbrev ti189:TI:=⟨.func #[] #[79] false,1,8,[.nilFunc],false,[]⟩
theorem ok189:TIok Tryz.prog 189 ti189:=tq (by kernel_rfl) trivial
abbrev ti191:TI:=⟨.func #[] #[92] false,1,8,[.nilFunc],false,[]⟩
theorem ok191:TIok Tryz.prog 191 ti191:=tq (by kernel_rfl) trivial
abbrev ti195:TI:=⟨.func #[] #[142] false,1,8,[.nilFunc],false,[]⟩
theorem ok195:TIok Tryz.prog 195 ti195:=tq (by kernel_rfl) trivial
abbrev ti196:TI:=⟨.func #[] #[82] false,1,8,[.nilFunc],false,[]⟩
theorem ok196:TIok Tryz.prog 196 ti196:=tq (by kernel_rfl) trivial
abbrev ti210:TI:=⟨.func #[3] #[4] false,1,8,[.nilFunc],false,[]⟩
theorem ok210:TIok Tryz.prog 210 ti210:=tq (by kernel_rfl) trivial
abbrev ti211:TI:=⟨.func #[75] #[4] false,1,8,[.nilFunc],false,[]⟩
theorem ok211:TIok Tryz.prog 211 ti211:=tq (by kernel_rfl) trivial
abbrev ti216:TI:=⟨.func #[79] #[4] false,1,8,[.nilFunc],false,[]⟩
theorem ok216:TIok Tryz.prog 216 ti216:=tq (by kernel_rfl) trivial
abbrev ti218:TI:=⟨.array 3 4,3,3,[.bool false,.bool false,.bool false],true,[]⟩
theorem ok218:TIok Tryz.prog 218 ti218:=tq (by kernel_rfl) trivial
abbrev ti219:TI:=⟨.array 100 218,300,300,List.replicate 300 (.bool false),true,[]⟩
theorem ok219:TIok Tryz.prog 219 ti219:=tq (by kernel_rfl) trivial
abbrev ti224:TI:=⟨.slice 61,1,24,[.slice none 0 0],false,[]⟩
theorem ok224:TIok Tryz.prog 224 ti224:=tq (by kernel_rfl) trivial
abbrev ti227:TI:=⟨.func #[5,4] #[4] false,1,8,[.nilFunc],false,[]⟩
theorem ok227:TIok Tryz.prog 227 ti227:=tq (by kernel_rfl) trivial
abbrev ti236:TI:=⟨.pointer 238,1,8,[.pointer none],false,[]⟩
theorem ok236:TIok Tryz.prog 236 ti236:=tq (by kernel_rfl) trivial
abbrev ti237:TI:=⟨.struct #[⟨ "plan",28,0,false, "", "leverframe/way",0⟩,⟨ "in",138,6,false, "", "leverframe/way",112⟩,⟨ "asks",128,8,false, "", "leverframe/way",128⟩,⟨ "outs",73,9,false, "", "leverframe/way",152⟩,⟨ "lost",4,10,false, "", "leverframe/way",176⟩],11,184,[.int .i64 0,.int .i64 0,.slice none 0 0,.slice none 0 0,.slice none 0 0,.slice none 0 0,.int .i64 0,.int .i64 0,.slice none 0 0,.slice none 0 0,.bool false],true,[(0,6),(6,2),(8,1),(9,1),(10,1)]⟩
theorem ok237:TIok Tryz.prog 237 ti237:=tq (by kernel_rfl) (fun w=>by kernel_rfl)
abbrev ti238:TI:=⟨.struct #[⟨ "plan",28,0,false, "", "leverframe/way",0⟩,⟨ "in",138,6,false, "", "leverframe/way",112⟩,⟨ "asks",128,8,false, "", "leverframe/way",128⟩,⟨ "outs",73,9,false, "", "leverframe/way",152⟩,⟨ "lost",4,10,false, "", "leverframe/way",176⟩],11,184,[.int .i64 0,.int .i64 0,.slice none 0 0,.slice none 0 0,.slice none 0 0,.slice none 0 0,.int .i64 0,.int .i64 0,.slice none 0 0,.slice none 0 0,.bool false],true,[(0,6),(6,2),(8,1),(9,1),(10,1)]⟩
theorem ok238:TIok Tryz.prog 238 ti238:=tq (by kernel_rfl) (fun w=>by kernel_rfl)
abbrev ti241:TI:=⟨.func #[3,138] #[4] false,1,8,[.nilFunc],false,[]⟩
theorem ok241:TIok Tryz.prog 241 ti241:=tq (by kernel_rfl) trivial
abbrev ti246:TI:=⟨.func #[77,75] #[4] false,1,8,[.nilFunc],false,[]⟩
theorem ok246:TIok Tryz.prog 246 ti246:=tq (by kernel_rfl) trivial
abbrev ti248:TI:=⟨.func #[63,79] #[4] false,1,8,[.nilFunc],false,[]⟩
theorem ok248:TIok Tryz.prog 248 ti248:=tq (by kernel_rfl) trivial
abbrev ti250:TI:=⟨.func #[65,82] #[4] false,1,8,[.nilFunc],false,[]⟩
theorem ok250:TIok Tryz.prog 250 ti250:=tq (by kernel_rfl) trivial
abbrev ti251:TI:=⟨.map 3 3,1,8,[.map none],false,[]⟩
theorem ok251:TIok Tryz.prog 251 ti251:=tq (by kernel_rfl) trivial
abbrev ti254:TI:=⟨.func #[179] #[4] false,1,8,[.nilFunc],false,[]⟩
theorem ok254:TIok Tryz.prog 254 ti254:=tq (by kernel_rfl) trivial
abbrev ti257:TI:=⟨.func #[75,3] #[3] false,1,8,[.nilFunc],false,[]⟩
theorem ok257:TIok Tryz.prog 257 ti257:=tq (by kernel_rfl) trivial
abbrev ti262:TI:=⟨.func #[92] #[4] false,1,8,[.nilFunc],false,[]⟩
theorem ok262:TIok Tryz.prog 262 ti262:=tq (by kernel_rfl) trivial
abbrev ti275:TI:=⟨.int .u64,1,8,[.int .u64 0],false,[]⟩
theorem ok275:TIok Tryz.prog 275 ti275:=tq (by kernel_rfl) trivial
abbrev ti277:TI:=⟨.array 3 3,3,24,[.int .i64 0,.int .i64 0,.int .i64 0],true,[]⟩
theorem ok277:TIok Tryz.prog 277 ti277:=tq (by kernel_rfl) trivial
abbrev ti278:TI:=⟨.array 3 277,9,72,List.replicate 9 (.int .i64 0),true,[]⟩
theorem ok278:TIok Tryz.prog 278 ti278:=tq (by kernel_rfl) trivial
abbrev ti279:TI:=⟨.array 3 277,9,72,List.replicate 9 (.int .i64 0),true,[]⟩
theorem ok279:TIok Tryz.prog 279 ti279:=tq (by kernel_rfl) trivial
def tab:TypeId->Option TI:=fun t=>
 match t with
 |1=>some ti1
 |2=>some ti2
 |3=>some ti3
 |4=>some ti4
 |5=>some ti5
 |9=>some ti9
 |20=>some ti20
 |22=>some ti22
 |23=>some ti23
 |24=>some ti24
 |25=>some ti25
 |26=>some ti26
 |27=>some ti27
 |28=>some ti28
 |29=>some ti29
 |30=>some ti30
 |31=>some ti31
 |32=>some ti32
 |33=>some ti33
 |34=>some ti34
 |35=>some ti35
 |37=>some ti37
 |59=>some ti59
 |61=>some ti61
 |62=>some ti62
 |63=>some ti63
 |64=>some ti64
 |65=>some ti65
 |68=>some ti68
 |69=>some ti69
 |70=>some ti70
 |72=>some ti72
 |73=>some ti73
 |74=>some ti74
 |75=>some ti75
 |76=>some ti76
 |77=>some ti77
 |78=>some ti78
 |79=>some ti79
 |80=>some ti80
 |81=>some ti81
 |82=>some ti82
 |91=>some ti91
 |92=>some ti92
 |93=>some ti93
 |94=>some ti94
 |95=>some ti95
 |100=>some ti100
 |103=>some ti103
 |123=>some ti123
 |124=>some ti124
 |128=>some ti128
 |129=>some ti129
 |130=>some ti130
 |132=>some ti132
 |133=>some ti133
 |134=>some ti134
 |137=>some ti137
 |138=>some ti138
 |139=>some ti139
 |141=>some ti141
 |142=>some ti142
 |152=>some ti152
 |154=>some ti154
 |155=>some ti155
 |157=>some ti157
 |159=>some ti159
 |163=>some ti163
 |164=>some ti164
 |171=>some ti171
 |172=>some ti172
 |175=>some ti175
 |178=>some ti178
 |179=>some ti179
 |183=>some ti183
 |184=>some ti184
 |185=>some ti185
 |187=>some ti187
 |189=>some ti189
 |191=>some ti191
 |195=>some ti195
 |196=>some ti196
 |210=>some ti210
 |211=>some ti211
 |216=>some ti216
 |218=>some ti218
 |219=>some ti219
 |224=>some ti224
 |227=>some ti227
 |236=>some ti236
 |237=>some ti237
 |238=>some ti238
 |241=>some ti241
 |246=>some ti246
 |248=>some ti248
 |250=>some ti250
 |251=>some ti251
 |254=>some ti254
 |257=>some ti257
 |262=>some ti262
 |275=>some ti275
 |277=>some ti277
 |278=>some ti278
 |279=>some ti279
 | _=>none
theorem Xj:Qw Tryz.prog tab:=by
 intro t ti h;unfold tab at h;split at h;all_goals first|(cases h;done)|(cases h;first|exact ok1|exact ok2|exact ok3|exact ok4|exact ok5|exact ok9|exact ok20|exact ok22|exact ok23|exact ok24|exact ok25|exact ok26|exact ok27|exact ok28|exact ok29|exact ok30|exact ok31|exact ok32|exact ok33|exact ok34|exact ok35|exact ok37|exact ok59|exact ok61|exact ok62|exact ok63|exact ok64|exact ok65|exact ok68|exact ok69|exact ok70|exact ok72|exact ok73|exact ok74|exact ok75|exact ok76|exact ok77|exact ok78|exact ok79|exact ok80|exact ok81|exact ok82|exact ok91|exact ok92|exact ok93|exact ok94|exact ok95|exact ok100|exact ok103|exact ok123|exact ok124|exact ok128|exact ok129|exact ok130|exact ok132|exact ok133|exact ok134|exact ok137|exact ok138|exact ok139|exact ok141|exact ok142|exact ok152|exact ok154|exact ok155|exact ok157|exact ok159|exact ok163|exact ok164|exact ok171|exact ok172|exact ok175|exact ok178|exact ok179|exact ok183|exact ok184|exact ok185|exact ok187|exact ok189|exact ok191|exact ok195|exact ok196|exact ok210|exact ok211|exact ok216|exact ok218|exact ok219|exact ok224|exact ok227|exact ok236|exact ok237|exact ok238|exact ok241|exact ok246|exact ok248|exact ok250|exact ok251|exact ok254|exact ok257|exact ok262|exact ok275|exact ok277|exact ok278|exact ok279)
theorem follows:Tryz.prog.follows .mixedOrders=true:=by kernel_rfl
theorem hb0 (f:Nat) (h2:2<f) (hf:f<203):Xd Tryz.prog f=True:=Xup (n:=203) (by kernel_rfl) f h2 hf
theorem hbT:∀f:Nat,2<f->f<203->Xd Tryz.prog f=True:=hb0
theorem tb (t:Nat) (x:TI) (h:tab t=some x):tab t=some x:=h
set_option linter.defProp false in
def Y33:=ab (tb 1 ti1 rfl)<|ab (tb 2 ti2 rfl)<|ab (tb 3 ti3 rfl)<|ab (tb 4 ti4 rfl)<|ab (tb 5 ti5 rfl)<|ab (tb 9 ti9 rfl)<|ab (tb 20 ti20 rfl)<|ab (tb 22 ti22 rfl)<|ab (tb 23 ti23 rfl)<|ab (tb 24 ti24 rfl)<|ab (tb 25 ti25 rfl)<|ab (tb 26 ti26 rfl)<|ab (tb 27 ti27 rfl)<|ab (tb 28 ti28 rfl)<|ab (tb 29 ti29 rfl)<|ab (tb 30 ti30 rfl)<|ab (tb 31 ti31 rfl)<|ab (tb 32 ti32 rfl)<|ab (tb 33 ti33 rfl)<|ab (tb 34 ti34 rfl)<|ab (tb 35 ti35 rfl)<|ab (tb 37 ti37 rfl)<|ab (tb 59 ti59 rfl)<|ab (tb 61 ti61 rfl)<|ab (tb 62 ti62 rfl)<|ab (tb 63 ti63 rfl)<|ab (tb 64 ti64 rfl)<|ab (tb 65 ti65 rfl)<|ab (tb 68 ti68 rfl)<|ab (tb 69 ti69 rfl)<|ab (tb 70 ti70 rfl)<|ab (tb 72 ti72 rfl)<|ab (tb 73 ti73 rfl)<|ab (tb 74 ti74 rfl)<|ab (tb 75 ti75 rfl)<|ab (tb 76 ti76 rfl)<|ab (tb 77 ti77 rfl)<|ab (tb 78 ti78 rfl)<|ab (tb 79 ti79 rfl)<|ab (tb 80 ti80 rfl)<|ab (tb 81 ti81 rfl)<|ab (tb 82 ti82 rfl)<|ab (tb 91 ti91 rfl)<|ab (tb 92 ti92 rfl)<|ab (tb 93 ti93 rfl)<|ab (tb 94 ti94 rfl)<|ab (tb 95 ti95 rfl)<|ab (tb 100 ti100 rfl)<|ab (tb 103 ti103 rfl)<|ab (tb 123 ti123 rfl)<|ab (tb 124 ti124 rfl)<|ab (tb 128 ti128 rfl)<|ab (tb 129 ti129 rfl)<|ab (tb 130 ti130 rfl)<|ab (tb 132 ti132 rfl)<|ab (tb 133 ti133 rfl)<|ab (tb 134 ti134 rfl)<|ab (tb 137 ti137 rfl)<|ab (tb 138 ti138 rfl)<|ab (tb 139 ti139 rfl)<|ab (tb 141 ti141 rfl)<|ab (tb 142 ti142 rfl)<|ab (tb 152 ti152 rfl)<|ab (tb 154 ti154 rfl)<|ab (tb 155 ti155 rfl)<|ab (tb 157 ti157 rfl)<|ab (tb 159 ti159 rfl)<|ab (tb 163 ti163 rfl)<|ab (tb 164 ti164 rfl)<|ab (tb 171 ti171 rfl)<|ab (tb 172 ti172 rfl)<|ab (tb 175 ti175 rfl)<|ab (tb 178 ti178 rfl)<|ab (tb 179 ti179 rfl)<|ab (tb 183 ti183 rfl)<|ab (tb 184 ti184 rfl)<|ab (tb 185 ti185 rfl)<|ab (tb 187 ti187 rfl)<|ab (tb 189 ti189 rfl)<|ab (tb 191 ti191 rfl)<|ab (tb 195 ti195 rfl)<|ab (tb 196 ti196 rfl)<|ab (tb 210 ti210 rfl)<|ab (tb 211 ti211 rfl)<|ab (tb 216 ti216 rfl)<|ab (tb 218 ti218 rfl)<|ab (tb 219 ti219 rfl)<|ab (tb 224 ti224 rfl)<|ab (tb 227 ti227 rfl)<|ab (tb 236 ti236 rfl)<|ab (tb 237 ti237 rfl)<|ab (tb 238 ti238 rfl)<|ab (tb 241 ti241 rfl)<|ab (tb 246 ti246 rfl)<|ab (tb 248 ti248 rfl)<|ab (tb 250 ti250 rfl)<|ab (tb 251 ti251 rfl)<|ab (tb 254 ti254 rfl)<|ab (tb 257 ti257 rfl)<|ab (tb 262 ti262 rfl)<|ab (tb 275 ti275 rfl)<|ab (tb 277 ti277 rfl)<|ab (tb 278 ti278 rfl)<|(tb 279 ti279 rfl)
end Go.Proofs.YtdngdjbgmojcoaaGreat.Tab
