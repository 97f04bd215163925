/- The functions in their compiled form, printed by program. -/
import Derived.Test.YtlaomcfiadmamaaGreatDoorD1
/- The compiled form of the functions, printed by gen.py. -/
namespace Go.Proofs.Ae
open Go
set_option maxRecDepth 100000
def fns (f : Nat) : Option CFn := match Nat.ble f 111 with
  | true => match Nat.ble f 56 with
   | true => match Nat.ble f 29 with
    | true => match Nat.ble f 15 with
     | true => match Nat.ble f 8 with
      | true => match Nat.ble f 5 with
       | true => match Nat.ble f 3 with
        | true => match Nat.beq f 3 with | true => some c3 | false => none
        | false => match Nat.ble f 4 with
         | true => match Nat.beq f 4 with | true => some c4 | false => none
         | false => match Nat.beq f 5 with | true => some c5 | false => none
       | false => match Nat.ble f 6 with
        | true => match Nat.beq f 6 with | true => some c6 | false => none
        | false => match Nat.ble f 7 with
         | true => match Nat.beq f 7 with | true => some c7 | false => none
         | false => match Nat.beq f 8 with | true => some c8 | false => none
      | false => match Nat.ble f 11 with
       | true => match Nat.ble f 9 with
        | true => match Nat.beq f 9 with | true => some c9 | false => none
        | false => match Nat.ble f 10 with
         | true => match Nat.beq f 10 with | true => some c10 | false => none
         | false => match Nat.beq f 11 with | true => some c11 | false => none
       | false => match Nat.ble f 13 with
        | true => match Nat.ble f 12 with
         | true => match Nat.beq f 12 with | true => some c12 | false => none
         | false => match Nat.beq f 13 with | true => some c13 | false => none
        | false => match Nat.ble f 14 with
         | true => match Nat.beq f 14 with | true => some c14 | false => none
         | false => match Nat.beq f 15 with | true => some c15 | false => none
     | false => match Nat.ble f 22 with
      | true => match Nat.ble f 18 with
       | true => match Nat.ble f 16 with
        | true => match Nat.beq f 16 with | true => some c16 | false => none
        | false => match Nat.ble f 17 with
         | true => match Nat.beq f 17 with | true => some c17 | false => none
         | false => match Nat.beq f 18 with | true => some c18 | false => none
       | false => match Nat.ble f 20 with
        | true => match Nat.ble f 19 with
         | true => match Nat.beq f 19 with | true => some c19 | false => none
         | false => match Nat.beq f 20 with | true => some c20 | false => none
        | false => match Nat.ble f 21 with
         | true => match Nat.beq f 21 with | true => some c21 | false => none
         | false => match Nat.beq f 22 with | true => some c22 | false => none
      | false => match Nat.ble f 25 with
       | true => match Nat.ble f 23 with
        | true => match Nat.beq f 23 with | true => some c23 | false => none
        | false => match Nat.ble f 24 with
         | true => match Nat.beq f 24 with | true => some c24 | false => none
         | false => match Nat.beq f 25 with | true => some c25 | false => none
       | false => match Nat.ble f 27 with
        | true => match Nat.ble f 26 with
         | true => match Nat.beq f 26 with | true => some c26 | false => none
         | false => match Nat.beq f 27 with | true => some c27 | false => none
        | false => match Nat.ble f 28 with
         | true => match Nat.beq f 28 with | true => some c28 | false => none
         | false => match Nat.beq f 29 with | true => some c29 | false => none
    | false => match Nat.ble f 42 with
     | true => match Nat.ble f 35 with
      | true => match Nat.ble f 32 with
       | true => match Nat.ble f 30 with
        | true => match Nat.beq f 30 with | true => some c30 | false => none
        | false => match Nat.ble f 31 with
         | true => match Nat.beq f 31 with | true => some c31 | false => none
         | false => match Nat.beq f 32 with | true => some c32 | false => none
       | false => match Nat.ble f 33 with
        | true => match Nat.beq f 33 with | true => some c33 | false => none
        | false => match Nat.ble f 34 with
         | true => match Nat.beq f 34 with | true => some c34 | false => none
         | false => match Nat.beq f 35 with | true => some c35 | false => none
      | false => match Nat.ble f 38 with
       | true => match Nat.ble f 36 with
        | true => match Nat.beq f 36 with | true => some c36 | false => none
        | false => match Nat.ble f 37 with
         | true => match Nat.beq f 37 with | true => some c37 | false => none
         | false => match Nat.beq f 38 with | true => some c38 | false => none
       | false => match Nat.ble f 40 with
        | true => match Nat.ble f 39 with
         | true => match Nat.beq f 39 with | true => some c39 | false => none
         | false => match Nat.beq f 40 with | true => some c40 | false => none
        | false => match Nat.ble f 41 with
         | true => match Nat.beq f 41 with | true => some c41 | false => none
         | false => match Nat.beq f 42 with | true => some c42 | false => none
     | false => match Nat.ble f 49 with
      | true => match Nat.ble f 45 with
       | true => match Nat.ble f 43 with
        | true => match Nat.beq f 43 with | true => some c43 | false => none
        | false => match Nat.ble f 44 with
         | true => match Nat.beq f 44 with | true => some c44 | false => none
         | false => match Nat.beq f 45 with | true => some c45 | false => none
       | false => match Nat.ble f 47 with
        | true => match Nat.ble f 46 with
         | true => match Nat.beq f 46 with | true => some c46 | false => none
         | false => match Nat.beq f 47 with | true => some c47 | false => none
        | false => match Nat.ble f 48 with
         | true => match Nat.beq f 48 with | true => some c48 | false => none
         | false => match Nat.beq f 49 with | true => some c49 | false => none
      | false => match Nat.ble f 52 with
       | true => match Nat.ble f 50 with
        | true => match Nat.beq f 50 with | true => some c50 | false => none
        | false => match Nat.ble f 51 with
         | true => match Nat.beq f 51 with | true => some c51 | false => none
         | false => match Nat.beq f 52 with | true => some c52 | false => none
       | false => match Nat.ble f 54 with
        | true => match Nat.ble f 53 with
         | true => match Nat.beq f 53 with | true => some c53 | false => none
         | false => match Nat.beq f 54 with | true => some c54 | false => none
        | false => match Nat.ble f 55 with
         | true => match Nat.beq f 55 with | true => some c55 | false => none
         | false => match Nat.beq f 56 with | true => some c56 | false => none
   | false => match Nat.ble f 83 with
    | true => match Nat.ble f 69 with
     | true => match Nat.ble f 62 with
      | true => match Nat.ble f 59 with
       | true => match Nat.ble f 57 with
        | true => match Nat.beq f 57 with | true => some c57 | false => none
        | false => match Nat.ble f 58 with
         | true => match Nat.beq f 58 with | true => some c58 | false => none
         | false => match Nat.beq f 59 with | true => some c59 | false => none
       | false => match Nat.ble f 60 with
        | true => match Nat.beq f 60 with | true => some c60 | false => none
        | false => match Nat.ble f 61 with
         | true => match Nat.beq f 61 with | true => some c61 | false => none
         | false => match Nat.beq f 62 with | true => some c62 | false => none
      | false => match Nat.ble f 65 with
       | true => match Nat.ble f 63 with
        | true => match Nat.beq f 63 with | true => some c63 | false => none
        | false => match Nat.ble f 64 with
         | true => match Nat.beq f 64 with | true => some c64 | false => none
         | false => match Nat.beq f 65 with | true => some c65 | false => none
       | false => match Nat.ble f 67 with
        | true => match Nat.ble f 66 with
         | true => match Nat.beq f 66 with | true => some c66 | false => none
         | false => match Nat.beq f 67 with | true => some c67 | false => none
        | false => match Nat.ble f 68 with
         | true => match Nat.beq f 68 with | true => some c68 | false => none
         | false => match Nat.beq f 69 with | true => some c69 | false => none
     | false => match Nat.ble f 76 with
      | true => match Nat.ble f 72 with
       | true => match Nat.ble f 70 with
        | true => match Nat.beq f 70 with | true => some c70 | false => none
        | false => match Nat.ble f 71 with
         | true => match Nat.beq f 71 with | true => some c71 | false => none
         | false => match Nat.beq f 72 with | true => some c72 | false => none
       | false => match Nat.ble f 74 with
        | true => match Nat.ble f 73 with
         | true => match Nat.beq f 73 with | true => some c73 | false => none
         | false => match Nat.beq f 74 with | true => some c74 | false => none
        | false => match Nat.ble f 75 with
         | true => match Nat.beq f 75 with | true => some c75 | false => none
         | false => match Nat.beq f 76 with | true => some c76 | false => none
      | false => match Nat.ble f 79 with
       | true => match Nat.ble f 77 with
        | true => match Nat.beq f 77 with | true => some c77 | false => none
        | false => match Nat.ble f 78 with
         | true => match Nat.beq f 78 with | true => some c78 | false => none
         | false => match Nat.beq f 79 with | true => some c79 | false => none
       | false => match Nat.ble f 81 with
        | true => match Nat.ble f 80 with
         | true => match Nat.beq f 80 with | true => some c80 | false => none
         | false => match Nat.beq f 81 with | true => some c81 | false => none
        | false => match Nat.ble f 82 with
         | true => match Nat.beq f 82 with | true => some c82 | false => none
         | false => match Nat.beq f 83 with | true => some c83 | false => none
    | false => match Nat.ble f 97 with
     | true => match Nat.ble f 90 with
      | true => match Nat.ble f 86 with
       | true => match Nat.ble f 84 with
        | true => match Nat.beq f 84 with | true => some c84 | false => none
        | false => match Nat.ble f 85 with
         | true => match Nat.beq f 85 with | true => some c85 | false => none
         | false => match Nat.beq f 86 with | true => some c86 | false => none
       | false => match Nat.ble f 88 with
        | true => match Nat.ble f 87 with
         | true => match Nat.beq f 87 with | true => some c87 | false => none
         | false => match Nat.beq f 88 with | true => some c88 | false => none
        | false => match Nat.ble f 89 with
         | true => match Nat.beq f 89 with | true => some c89 | false => none
         | false => match Nat.beq f 90 with | true => some c90 | false => none
      | false => match Nat.ble f 93 with
       | true => match Nat.ble f 91 with
        | true => match Nat.beq f 91 with | true => some c91 | false => none
        | false => match Nat.ble f 92 with
         | true => match Nat.beq f 92 with | true => some c92 | false => none
         | false => match Nat.beq f 93 with | true => some c93 | false => none
       | false => match Nat.ble f 95 with
        | true => match Nat.ble f 94 with
         | true => match Nat.beq f 94 with | true => some c94 | false => none
         | false => match Nat.beq f 95 with | true => some c95 | false => none
        | false => match Nat.ble f 96 with
         | true => match Nat.beq f 96 with | true => some c96 | false => none
         | false => match Nat.beq f 97 with | true => some c97 | false => none
     | false => match Nat.ble f 104 with
      | true => match Nat.ble f 100 with
       | true => match Nat.ble f 98 with
        | true => match Nat.beq f 98 with | true => some c98 | false => none
        | false => match Nat.ble f 99 with
         | true => match Nat.beq f 99 with | true => some c99 | false => none
         | false => match Nat.beq f 100 with | true => some c100 | false => none
       | false => match Nat.ble f 102 with
        | true => match Nat.ble f 101 with
         | true => match Nat.beq f 101 with | true => some c101 | false => none
         | false => match Nat.beq f 102 with | true => some c102 | false => none
        | false => match Nat.ble f 103 with
         | true => match Nat.beq f 103 with | true => some c103 | false => none
         | false => match Nat.beq f 104 with | true => some c104 | false => none
      | false => match Nat.ble f 107 with
       | true => match Nat.ble f 105 with
        | true => match Nat.beq f 105 with | true => some c105 | false => none
        | false => match Nat.ble f 106 with
         | true => match Nat.beq f 106 with | true => some c106 | false => none
         | false => match Nat.beq f 107 with | true => some c107 | false => none
       | false => match Nat.ble f 109 with
        | true => match Nat.ble f 108 with
         | true => match Nat.beq f 108 with | true => some c108 | false => none
         | false => match Nat.beq f 109 with | true => some c109 | false => none
        | false => match Nat.ble f 110 with
         | true => match Nat.beq f 110 with | true => some c110 | false => none
         | false => match Nat.beq f 111 with | true => some c111 | false => none
  | false => match Nat.ble f 167 with
   | true => match Nat.ble f 138 with
    | true => match Nat.ble f 124 with
     | true => match Nat.ble f 117 with
      | true => match Nat.ble f 114 with
       | true => match Nat.ble f 112 with
        | true => match Nat.beq f 112 with | true => some c112 | false => none
        | false => match Nat.ble f 113 with
         | true => match Nat.beq f 113 with | true => some c113 | false => none
         | false => match Nat.beq f 114 with | true => some c114 | false => none
       | false => match Nat.ble f 115 with
        | true => match Nat.beq f 115 with | true => some c115 | false => none
        | false => match Nat.ble f 116 with
         | true => match Nat.beq f 116 with | true => some c116 | false => none
         | false => match Nat.beq f 117 with | true => some c117 | false => none
      | false => match Nat.ble f 120 with
       | true => match Nat.ble f 118 with
        | true => match Nat.beq f 118 with | true => some c118 | false => none
        | false => match Nat.ble f 119 with
         | true => match Nat.beq f 119 with | true => some c119 | false => none
         | false => match Nat.beq f 120 with | true => some c120 | false => none
       | false => match Nat.ble f 122 with
        | true => match Nat.ble f 121 with
         | true => match Nat.beq f 121 with | true => some c121 | false => none
         | false => match Nat.beq f 122 with | true => some c122 | false => none
        | false => match Nat.ble f 123 with
         | true => match Nat.beq f 123 with | true => some c123 | false => none
         | false => match Nat.beq f 124 with | true => some c124 | false => none
     | false => match Nat.ble f 131 with
      | true => match Nat.ble f 127 with
       | true => match Nat.ble f 125 with
        | true => match Nat.beq f 125 with | true => some c125 | false => none
        | false => match Nat.ble f 126 with
         | true => match Nat.beq f 126 with | true => some c126 | false => none
         | false => match Nat.beq f 127 with | true => some c127 | false => none
       | false => match Nat.ble f 129 with
        | true => match Nat.ble f 128 with
         | true => match Nat.beq f 128 with | true => some c128 | false => none
         | false => match Nat.beq f 129 with | true => some c129 | false => none
        | false => match Nat.ble f 130 with
         | true => match Nat.beq f 130 with | true => some c130 | false => none
         | false => match Nat.beq f 131 with | true => some c131 | false => none
      | false => match Nat.ble f 134 with
       | true => match Nat.ble f 132 with
        | true => match Nat.beq f 132 with | true => some c132 | false => none
        | false => match Nat.ble f 133 with
         | true => match Nat.beq f 133 with | true => some c133 | false => none
         | false => match Nat.beq f 134 with | true => some c134 | false => none
       | false => match Nat.ble f 136 with
        | true => match Nat.ble f 135 with
         | true => match Nat.beq f 135 with | true => some c135 | false => none
         | false => match Nat.beq f 136 with | true => some c136 | false => none
        | false => match Nat.ble f 137 with
         | true => match Nat.beq f 137 with | true => some c137 | false => none
         | false => match Nat.beq f 138 with | true => some c138 | false => none
    | false => match Nat.ble f 152 with
     | true => match Nat.ble f 145 with
      | true => match Nat.ble f 141 with
       | true => match Nat.ble f 139 with
        | true => match Nat.beq f 139 with | true => some c139 | false => none
        | false => match Nat.ble f 140 with
         | true => match Nat.beq f 140 with | true => some c140 | false => none
         | false => match Nat.beq f 141 with | true => some c141 | false => none
       | false => match Nat.ble f 143 with
        | true => match Nat.ble f 142 with
         | true => match Nat.beq f 142 with | true => some c142 | false => none
         | false => match Nat.beq f 143 with | true => some c143 | false => none
        | false => match Nat.ble f 144 with
         | true => match Nat.beq f 144 with | true => some c144 | false => none
         | false => match Nat.beq f 145 with | true => some c145 | false => none
      | false => match Nat.ble f 148 with
       | true => match Nat.ble f 146 with
        | true => match Nat.beq f 146 with | true => some c146 | false => none
        | false => match Nat.ble f 147 with
         | true => match Nat.beq f 147 with | true => some c147 | false => none
         | false => match Nat.beq f 148 with | true => some c148 | false => none
       | false => match Nat.ble f 150 with
        | true => match Nat.ble f 149 with
         | true => match Nat.beq f 149 with | true => some c149 | false => none
         | false => match Nat.beq f 150 with | true => some c150 | false => none
        | false => match Nat.ble f 151 with
         | true => match Nat.beq f 151 with | true => some c151 | false => none
         | false => match Nat.beq f 152 with | true => some c152 | false => none
     | false => match Nat.ble f 160 with
      | true => match Nat.ble f 156 with
       | true => match Nat.ble f 154 with
        | true => match Nat.beq f 154 with | true => some c154 | false => none
        | false => match Nat.ble f 155 with
         | true => match Nat.beq f 155 with | true => some c155 | false => none
         | false => match Nat.beq f 156 with | true => some c156 | false => none
       | false => match Nat.ble f 158 with
        | true => match Nat.ble f 157 with
         | true => match Nat.beq f 157 with | true => some c157 | false => none
         | false => match Nat.beq f 158 with | true => some c158 | false => none
        | false => match Nat.ble f 159 with
         | true => match Nat.beq f 159 with | true => some c159 | false => none
         | false => match Nat.beq f 160 with | true => some c160 | false => none
      | false => match Nat.ble f 163 with
       | true => match Nat.ble f 161 with
        | true => match Nat.beq f 161 with | true => some c161 | false => none
        | false => match Nat.ble f 162 with
         | true => match Nat.beq f 162 with | true => some c162 | false => none
         | false => match Nat.beq f 163 with | true => some c163 | false => none
       | false => match Nat.ble f 165 with
        | true => match Nat.ble f 164 with
         | true => match Nat.beq f 164 with | true => some c164 | false => none
         | false => match Nat.beq f 165 with | true => some c165 | false => none
        | false => match Nat.ble f 166 with
         | true => match Nat.beq f 166 with | true => some c166 | false => none
         | false => match Nat.beq f 167 with | true => some c167 | false => none
   | false => match Nat.ble f 195 with
    | true => match Nat.ble f 181 with
     | true => match Nat.ble f 174 with
      | true => match Nat.ble f 170 with
       | true => match Nat.ble f 168 with
        | true => match Nat.beq f 168 with | true => some c168 | false => none
        | false => match Nat.ble f 169 with
         | true => match Nat.beq f 169 with | true => some c169 | false => none
         | false => match Nat.beq f 170 with | true => some c170 | false => none
       | false => match Nat.ble f 171 with
        | true => match Nat.beq f 171 with | true => some c171 | false => none
        | false => match Nat.ble f 172 with
         | true => match Nat.beq f 172 with | true => some c172 | false => none
         | false => match Nat.beq f 174 with | true => some c174 | false => none
      | false => match Nat.ble f 177 with
       | true => match Nat.ble f 175 with
        | true => match Nat.beq f 175 with | true => some c175 | false => none
        | false => match Nat.ble f 176 with
         | true => match Nat.beq f 176 with | true => some c176 | false => none
         | false => match Nat.beq f 177 with | true => some c177 | false => none
       | false => match Nat.ble f 179 with
        | true => match Nat.ble f 178 with
         | true => match Nat.beq f 178 with | true => some c178 | false => none
         | false => match Nat.beq f 179 with | true => some c179 | false => none
        | false => match Nat.ble f 180 with
         | true => match Nat.beq f 180 with | true => some c180 | false => none
         | false => match Nat.beq f 181 with | true => some c181 | false => none
     | false => match Nat.ble f 188 with
      | true => match Nat.ble f 184 with
       | true => match Nat.ble f 182 with
        | true => match Nat.beq f 182 with | true => some c182 | false => none
        | false => match Nat.ble f 183 with
         | true => match Nat.beq f 183 with | true => some c183 | false => none
         | false => match Nat.beq f 184 with | true => some c184 | false => none
       | false => match Nat.ble f 186 with
        | true => match Nat.ble f 185 with
         | true => match Nat.beq f 185 with | true => some c185 | false => none
         | false => match Nat.beq f 186 with | true => some c186 | false => none
        | false => match Nat.ble f 187 with
         | true => match Nat.beq f 187 with | true => some c187 | false => none
         | false => match Nat.beq f 188 with | true => some c188 | false => none
      | false => match Nat.ble f 191 with
       | true => match Nat.ble f 189 with
        | true => match Nat.beq f 189 with | true => some c189 | false => none
        | false => match Nat.ble f 190 with
         | true => match Nat.beq f 190 with | true => some c190 | false => none
         | false => match Nat.beq f 191 with | true => some c191 | false => none
       | false => match Nat.ble f 193 with
        | true => match Nat.ble f 192 with
         | true => match Nat.beq f 192 with | true => some c192 | false => none
         | false => match Nat.beq f 193 with | true => some c193 | false => none
        | false => match Nat.ble f 194 with
         | true => match Nat.beq f 194 with | true => some c194 | false => none
         | false => match Nat.beq f 195 with | true => some c195 | false => none
    | false => match Nat.ble f 209 with
     | true => match Nat.ble f 202 with
      | true => match Nat.ble f 198 with
       | true => match Nat.ble f 196 with
        | true => match Nat.beq f 196 with | true => some c196 | false => none
        | false => match Nat.ble f 197 with
         | true => match Nat.beq f 197 with | true => some c197 | false => none
         | false => match Nat.beq f 198 with | true => some c198 | false => none
       | false => match Nat.ble f 200 with
        | true => match Nat.ble f 199 with
         | true => match Nat.beq f 199 with | true => some c199 | false => none
         | false => match Nat.beq f 200 with | true => some c200 | false => none
        | false => match Nat.ble f 201 with
         | true => match Nat.beq f 201 with | true => some c201 | false => none
         | false => match Nat.beq f 202 with | true => some c202 | false => none
      | false => match Nat.ble f 205 with
       | true => match Nat.ble f 203 with
        | true => match Nat.beq f 203 with | true => some c203 | false => none
        | false => match Nat.ble f 204 with
         | true => match Nat.beq f 204 with | true => some c204 | false => none
         | false => match Nat.beq f 205 with | true => some c205 | false => none
       | false => match Nat.ble f 207 with
        | true => match Nat.ble f 206 with
         | true => match Nat.beq f 206 with | true => some c206 | false => none
         | false => match Nat.beq f 207 with | true => some c207 | false => none
        | false => match Nat.ble f 208 with
         | true => match Nat.beq f 208 with | true => some c208 | false => none
         | false => match Nat.beq f 209 with | true => some c209 | false => none
     | false => match Nat.ble f 216 with
      | true => match Nat.ble f 212 with
       | true => match Nat.ble f 210 with
        | true => match Nat.beq f 210 with | true => some c210 | false => none
        | false => match Nat.ble f 211 with
         | true => match Nat.beq f 211 with | true => some c211 | false => none
         | false => match Nat.beq f 212 with | true => some c212 | false => none
       | false => match Nat.ble f 214 with
        | true => match Nat.ble f 213 with
         | true => match Nat.beq f 213 with | true => some c213 | false => none
         | false => match Nat.beq f 214 with | true => some c214 | false => none
        | false => match Nat.ble f 215 with
         | true => match Nat.beq f 215 with | true => some c215 | false => none
         | false => match Nat.beq f 216 with | true => some c216 | false => none
      | false => match Nat.ble f 219 with
       | true => match Nat.ble f 217 with
        | true => match Nat.beq f 217 with | true => some c217 | false => none
        | false => match Nat.ble f 218 with
         | true => match Nat.beq f 218 with | true => some c218 | false => none
         | false => match Nat.beq f 219 with | true => some c219 | false => none
       | false => match Nat.ble f 221 with
        | true => match Nat.ble f 220 with
         | true => match Nat.beq f 220 with | true => some c220 | false => none
         | false => match Nat.beq f 221 with | true => some c221 | false => none
        | false => match Nat.ble f 222 with
         | true => match Nat.beq f 222 with | true => some c222 | false => none
         | false => match Nat.beq f 256 with | true => some c256 | false => none
def clones : Nat → List AV → Option (AV × Option Arr)
  | 72 => cloneA 99 2
  | 74 => cloneA 9 1
  | 82 => cloneA 112 2
  | _ => fun _ => none
end Go.Proofs.Ae
